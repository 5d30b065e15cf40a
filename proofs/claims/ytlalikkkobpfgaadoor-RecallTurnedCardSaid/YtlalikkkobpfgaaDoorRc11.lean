/-
  The law RecallMore.
-/
import Derived.Test.YtlalikkkobpfgaaDoorRc10
import Derived.Test.YtlalikkkobpfgaaDoorRcV
set_option linter.unusedVariables false
set_option maxRecDepth 100000
set_option maxHeartbeats 4000000
set_option linter.unusedSimpArgs false
namespace Go.Proofs.YtlalikkkobpfgaaDoor
open Go.AF
theorem Blame_v (l : List Bat) (bad good : Nat) (hb : l.length ≤ bigN) (hC : crdOk l) (hbl : bad < 2 ^ l.length) (hgl : good < 2 ^ l.length) (hz : bad ≠ 0) : Pure Tryd.prog 17 [batV l, .int .i64 (bad : Int), .int .i64 (good : Int)] (.tuple [.int .i64 ((blameN l bad good : Nat) : Int), .int .i64 (if blameN l bad good = 0 then 6 else 0)]) := by
  have h := Blame_ok l (bad : Int) (good : Int) hb
  obtain ⟨e1, e2, e3⟩ := bl_of hC hbl hgl hz
  rwa [e1, e2] at h
theorem Recall_v (l : List Bat) (bad good : Nat) (hb : l.length ≤ bigN) (hC : crdOk l) (hbl : bad < 2 ^ l.length) (hgl : good < 2 ^ l.length) (hz : bad ≠ 0) : Pure Tryd.prog 19 [batV l, .int .i64 (bad : Int), .int .i64 (good : Int)] (.tuple [.int .i64 ((callN l (blameN l bad good) : Nat) : Int), .agg [.int .i64 (recS l bad good).1, .int .i64 (recS l bad good).2], .int .i64 (if blameN l bad good = 0 then 6 else 0)]) := by
  have h := Recall_ok l (bad : Int) (good : Int) hb
  obtain ⟨e1, e2, e3⟩ := bl_of hC hbl hgl hz
  rwa [e1, e3] at h
theorem Common_v (l : List Bat) (bad : Nat) (hb : l.length ≤ bigN) (hC : crdOk l) (hbl : bad < 2 ^ l.length) (hz : bad ≠ 0) : Pure Tryd.prog 15 [batV l, .int .i64 (bad : Int)] (.tuple [.int .i64 ((blameN l bad 0 : Nat) : Int), .int .i64 ((lastN l (blameN l bad 0) : Nat) : Int), .int .i64 (if blameN l bad 0 = 0 then 4 else 0)]) := by
  have h := Common_ok l (bad : Int) hb
  obtain ⟨e1, e2⟩ := cm_of hC hbl hz
  rwa [cmE_of hC hbl hz, e1, e2] at h
theorem recallMore_main (l : List Bat) (bad good : Int) (mo : Nat) (hb : l.length ≤ bigN) (hmo : mo < 2 ^ 32) : Pure Tryd.prog 8 [batV l, .int .i64 bad, .int .i64 good, .int .u32 (mo : Int)] (.bool true) := by
  have hb2 := hb
  unfold bigN at hb2
  refine Pure.start (N := 248) Tryd.func8 rfl rfl (Nat.le_of_ble_eq_true rfl) ?_
  refine AWp.seq ?_
  refine AWp.region ?_
  refine AList.c 8 rfl rfl rfl (OpJ.assign rfl rfl) ?_
  refine AList.nil ?_
  refine AWp.seq ?_
  refine AWp.seq ?_
  refine AWp.region ?_
  refine AList.c 28 rfl rfl rfl (OpJ.move rfl rfl) ?_
  refine AList.c 29 rfl rfl rfl (OpJ.lenSlice rfl rfl sl22 rfl) ?_
  refine AList.c 30 rfl rfl rfl (OpJ.gtr rfl rfl rfl) ?_
  refine AList.c 31 rfl rfl rfl (OpJ.move rfl rfl) ?_
  refine AList.g 32 31 rfl rfl rfl rfl rfl rfl rfl [(0, _)] (fun h => And.intro (.inl rfl) (trivial)) (fun h => (OpJ.move rfl rfl)) ?_
  refine AList.g 33 31 rfl rfl rfl rfl rfl rfl rfl [(32, _)] (fun h => And.intro (.inr ⟨_, rfl, h⟩) (trivial)) (fun h => (OpJ.lenSlice rfl rfl sl22 rfl)) ?_
  refine AList.g 34 31 rfl rfl rfl rfl rfl rfl rfl [(33, _)] (fun h => And.intro (.inr ⟨_, rfl, h⟩) (trivial)) (fun h => (OpJ.eql rfl rfl rfl)) ?_
  refine AList.c 35 rfl rfl rfl (OpJ.or_ rfl rfl rfl ?_) ?_
  · first | (intro h; rw [h]; rfl) | (intro h; simp_all)
  refine AList.c 36 rfl rfl rfl (OpJ.move rfl rfl) ?_
  refine AList.g 37 36 rfl rfl rfl rfl rfl rfl rfl [(0, _)] (fun h => And.intro (.inl rfl) (trivial)) (fun h => (OpJ.move rfl rfl)) ?_
  refine AList.g 38 36 rfl rfl rfl rfl rfl rfl rfl [(37, _)] (fun h => And.intro (.inr ⟨_, rfl, h⟩) (trivial)) (fun h => (OpJ.callP (rcards_ok l hb) rfl rfl rfl rfl rf21)) ?_
  refine AList.g 39 36 rfl rfl rfl rfl rfl rfl rfl [(38, _)] (fun h => And.intro (.inr ⟨_, rfl, h⟩) (trivial)) (fun h => (OpJ.not_ rfl rfl)) ?_
  refine AList.c 40 rfl rfl rfl (OpJ.or_ rfl rfl rfl ?_) ?_
  · first | (intro h; rw [h]; rfl) | (intro h; simp_all)
  refine AList.c 41 rfl rfl rfl (OpJ.move rfl rfl) ?_
  refine AList.g 42 41 rfl rfl rfl rfl rfl rfl rfl [(1, _)] (fun h => And.intro (.inl rfl) (trivial)) (fun h => (OpJ.move rfl rfl)) ?_
  refine AList.g 43 41 rfl rfl rfl rfl rfl rfl rfl [(42, _)] (fun h => And.intro (.inr ⟨_, rfl, h⟩) (trivial)) (fun h => (OpJ.leq rfl rfl rfl)) ?_
  refine AList.c 44 rfl rfl rfl (OpJ.or_ rfl rfl rfl ?_) ?_
  · first | (intro h; rw [h]; rfl) | (intro h; simp_all)
  refine AList.c 45 rfl rfl rfl (OpJ.move rfl rfl) ?_
  refine AList.g 46 45 rfl rfl rfl rfl rfl rfl rfl [(1, _)] (fun h => And.intro (.inl rfl) (trivial)) (fun h => (OpJ.move rfl rfl)) ?_
  refine AList.g 47 45 rfl rfl rfl rfl rfl rfl rfl [(0, _)] (fun h => And.intro (.inl rfl) (trivial)) (fun h => (OpJ.move rfl rfl)) ?_
  refine AList.g 48 45 rfl rfl rfl rfl rfl rfl rfl [(47, _)] (fun h => And.intro (.inr ⟨_, rfl, h⟩) (trivial)) (fun h => (OpJ.lenSlice rfl rfl sl22 rfl)) ?_
  refine AList.g 49 45 rfl rfl rfl rfl rfl rfl rfl [(48, _)] (fun h => And.intro (.inr ⟨_, rfl, h⟩) (trivial)) (fun h => (OpJ.shlN 1 l.length rfl rfl rfl (by show _ ≤ (64 : Nat); have hj : l.length ≤ 30 := (by simp at h; omega); omega) (by show _ ≤ (9223372036854775807 : Int); rw [Nat.one_mul]; have hj : l.length ≤ 30 := (by simp at h; omega); have := Nat.pow_le_pow_right (show 0 < 2 by omega) hj; omega))) ?_
  refine AList.g 50 45 rfl rfl rfl rfl rfl rfl rfl [(46, _), (49, _)] (fun h => And.intro (.inr ⟨_, rfl, h⟩) (And.intro (.inr ⟨_, rfl, h⟩) (trivial))) (fun h => (OpJ.geq rfl rfl rfl)) ?_
  refine AList.c 51 rfl rfl rfl (OpJ.or_ rfl rfl rfl ?_) ?_
  · first | (intro h; rw [h]; rfl) | (intro h; simp_all)
  refine AList.c 52 rfl rfl rfl (OpJ.move rfl rfl) ?_
  refine AList.g 53 52 rfl rfl rfl rfl rfl rfl rfl [(2, _)] (fun h => And.intro (.inl rfl) (trivial)) (fun h => (OpJ.move rfl rfl)) ?_
  refine AList.g 54 52 rfl rfl rfl rfl rfl rfl rfl [(53, _)] (fun h => And.intro (.inr ⟨_, rfl, h⟩) (trivial)) (fun h => (OpJ.lss rfl rfl rfl)) ?_
  refine AList.c 55 rfl rfl rfl (OpJ.or_ rfl rfl rfl ?_) ?_
  · first | (intro h; rw [h]; rfl) | (intro h; simp_all)
  refine AList.c 56 rfl rfl rfl (OpJ.move rfl rfl) ?_
  refine AList.g 57 56 rfl rfl rfl rfl rfl rfl rfl [(2, _)] (fun h => And.intro (.inl rfl) (trivial)) (fun h => (OpJ.move rfl rfl)) ?_
  refine AList.g 58 56 rfl rfl rfl rfl rfl rfl rfl [(0, _)] (fun h => And.intro (.inl rfl) (trivial)) (fun h => (OpJ.move rfl rfl)) ?_
  refine AList.g 59 56 rfl rfl rfl rfl rfl rfl rfl [(58, _)] (fun h => And.intro (.inr ⟨_, rfl, h⟩) (trivial)) (fun h => (OpJ.lenSlice rfl rfl sl22 rfl)) ?_
  refine AList.g 60 56 rfl rfl rfl rfl rfl rfl rfl [(59, _)] (fun h => And.intro (.inr ⟨_, rfl, h⟩) (trivial)) (fun h => (OpJ.shlN 1 l.length rfl rfl rfl (by show _ ≤ (64 : Nat); have hj : l.length ≤ 30 := (by simp at h; omega); omega) (by show _ ≤ (9223372036854775807 : Int); rw [Nat.one_mul]; have hj : l.length ≤ 30 := (by simp at h; omega); have := Nat.pow_le_pow_right (show 0 < 2 by omega) hj; omega))) ?_
  refine AList.g 61 56 rfl rfl rfl rfl rfl rfl rfl [(57, _), (60, _)] (fun h => And.intro (.inr ⟨_, rfl, h⟩) (And.intro (.inr ⟨_, rfl, h⟩) (trivial))) (fun h => (OpJ.geq rfl rfl rfl)) ?_
  refine AList.c 62 rfl rfl rfl (OpJ.or_ rfl rfl rfl ?_) ?_
  · first | (intro h; rw [h]; rfl) | (intro h; simp_all)
  refine AList.nil ?_
  refine AWp.cond _ rfl (fun hc0 => ?_) (fun hc0 => ?_)
  · skip
    refine AWp.seq ?_
    refine AWp.region ?_
    refine AList.c 63 rfl rfl rfl (OpJ.callP (awake_ok) rfl rfl rfl rfl rf10) ?_
    refine AList.c 8 rfl rfl rfl (OpJ.assign rfl rfl) ?_
    refine AList.nil ?_
    refine AWp.ret ?_
    exact Fin.oneE rfl rfl rfl
  · skip
    simp only [Bool.or_eq_false_iff, Bool.and_eq_true, Bool.not_eq_false', decide_eq_true_eq, decide_eq_false_iff_not, Nat.one_mul] at hc0
    obtain ⟨⟨⟨⟨⟨⟨_, hn0⟩, hC⟩, hb0⟩, hb1⟩, hg0⟩, hg1⟩ := hc0
    obtain ⟨bad, rfl⟩ : ∃ m : Nat, bad = (m : Int) := ⟨bad.toNat, by omega⟩
    obtain ⟨good, rfl⟩ : ∃ m : Nat, good = (m : Int) := ⟨good.toNat, by omega⟩
    have h24 := crd24 hC
    have hp24 := Nat.pow_le_pow_right (show 0 < 2 by omega) h24
    have hp1 := Nat.two_pow_pos l.length
    have hbl : bad < 2 ^ l.length := by omega
    have hgl : good < 2 ^ l.length := by omega
    have hz : bad ≠ 0 := by omega
    have hsm := Nat.mod_lt mo hp1
    refine AWp.skip ?_
    refine AWp.seq ?_
    refine AWp.region ?_
    refine AList.c 65 rfl rfl rfl (OpJ.move rfl rfl) ?_
    refine AList.c 66 rfl rfl rfl (OpJ.move rfl rfl) ?_
    refine AList.c 67 rfl rfl rfl (OpJ.move rfl rfl) ?_
    refine AList.c 68 rfl rfl rfl (OpJ.callP (Blame_v l bad good hb hC hbl hgl hz) rfl rfl rfl rfl rf17) ?_
    refine AList.c 64 rfl rfl rfl (OpJ.move rfl rfl) ?_
    refine AList.c 69 rfl rfl rfl (OpJ.extract rfl rfl rfl) ?_
    refine AList.c 70 rfl rfl rfl (OpJ.extract rfl rfl rfl) ?_
    refine AList.c 9 rfl rfl rfl (OpJ.assign rfl rfl) ?_
    refine AList.c 10 rfl rfl rfl (OpJ.assign rfl rfl) ?_
    refine AList.nil ?_
    refine AWp.seq ?_
    refine AWp.region ?_
    refine AList.c 72 rfl rfl rfl (OpJ.move rfl rfl) ?_
    refine AList.c 73 rfl rfl rfl (OpJ.move rfl rfl) ?_
    refine AList.c 74 rfl rfl rfl (OpJ.move rfl rfl) ?_
    refine AList.c 75 rfl rfl rfl (OpJ.callP (Recall_v l bad good hb hC hbl hgl hz) rfl rfl rfl rfl rf19) ?_
    refine AList.c 71 rfl rfl rfl (OpJ.move rfl rfl) ?_
    refine AList.c 76 rfl rfl rfl (OpJ.extract rfl rfl rfl) ?_
    refine AList.c 77 rfl rfl rfl (OpJ.extract rfl rfl rfl) ?_
    refine AList.c 78 rfl rfl rfl (OpJ.extract rfl rfl rfl) ?_
    refine AList.c 12 rfl rfl rfl (OpJ.allocOwn rfl zr32 rfl) ?_
    refine AList.c 11 rfl rfl rfl (OpJ.assign rfl rfl) ?_
    refine AList.c0 rfl rfl (OpJ.store rfl rfl rfl rfl rfl ty32 rfl rfl) ?_
    refine AList.c 13 rfl rfl rfl (OpJ.assign rfl rfl) ?_
    refine AList.nil ?_
    refine AWp.seq ?_
    refine AWp.region ?_
    refine AList.c 79 rfl rfl rfl (OpJ.move rfl rfl) ?_
    refine AList.c 80 rfl rfl rfl (OpJ.convInt rfl rfl (by rw [un35]; rfl) un3 (i64ok ?_)) ?_
    · omega
    refine AList.c 81 rfl rfl rfl (OpJ.move rfl rfl) ?_
    refine AList.c 82 rfl rfl rfl (OpJ.lenSlice rfl rfl sl22 rfl) ?_
    refine AList.c 83 rfl rfl rfl (OpJ.shlN 1 l.length rfl rfl rfl (by show _ ≤ (64 : Nat); omega) (by show _ ≤ (9223372036854775807 : Int); rw [Nat.one_mul]; omega)) ?_
    rw [Nat.one_mul]
    refine AList.c 84 rfl rfl rfl (OpJ.rem (m := ((mo % 2 ^ l.length : Nat) : Int)) rfl rfl rfl ?_ ?_) ?_
    · omega
    · rfl
    refine AList.c 14 rfl rfl rfl (OpJ.assign rfl rfl) ?_
    refine AList.nil ?_
    refine AWp.seq ?_
    generalize hae : mo % 2 ^ l.length = s at hsm ⊢
    have hbs : bad ||| s < 2 ^ l.length := Nat.or_lt_two_pow hbl hsm
    have hgs : good ||| s < 2 ^ l.length := Nat.or_lt_two_pow hgl hsm
    have hzs : bad ||| s ≠ 0 := by intro h; have := Nat.left_le_or (n := bad) (m := s); omega
    refine AWp.norm [0] [(0, _), (1, _), (2, _), (9, _), (10, _), (11, _), (12, _), (13, _), (14, _)] [_] rfl (by repeat (first | exact Sub.nil | refine Sub.cons rfl ?_)) rfl ?_
    refine AWp.region ?_
    refine AList.c 86 rfl rfl rfl (OpJ.move rfl rfl) ?_
    refine AList.c 87 rfl rfl rfl (OpJ.move rfl rfl) ?_
    refine AList.c 88 rfl rfl rfl (OpJ.move rfl rfl) ?_
    refine AList.c 89 rfl rfl rfl (OpJ.orN bad s rfl rfl rfl (by show _ ≤ (9223372036854775807 : Int); omega) (by show _ ≤ (9223372036854775807 : Int); omega) (by show _ ≤ (9223372036854775807 : Int); omega)) ?_
    refine AList.c 90 rfl rfl rfl (OpJ.move rfl rfl) ?_
    refine AList.c 91 rfl rfl rfl (OpJ.callP (Blame_v l (bad ||| s) good hb hC hbs hgl hzs) rfl rfl rfl rfl rf17) ?_
    refine AList.c 85 rfl rfl rfl (OpJ.move rfl rfl) ?_
    refine AList.c 92 rfl rfl rfl (OpJ.extract rfl rfl rfl) ?_
    refine AList.c 93 rfl rfl rfl (OpJ.extract rfl rfl rfl) ?_
    refine AList.c 15 rfl rfl rfl (OpJ.assign rfl rfl) ?_
    refine AList.c 16 rfl rfl rfl (OpJ.assign rfl rfl) ?_
    refine AList.nil ?_
    refine AWp.seq ?_
    refine AWp.region ?_
    refine AList.c 95 rfl rfl rfl (OpJ.move rfl rfl) ?_
    refine AList.c 96 rfl rfl rfl (OpJ.move rfl rfl) ?_
    refine AList.c 97 rfl rfl rfl (OpJ.move rfl rfl) ?_
    refine AList.c 98 rfl rfl rfl (OpJ.move rfl rfl) ?_
    refine AList.c 99 rfl rfl rfl (OpJ.orN good s rfl rfl rfl (by show _ ≤ (9223372036854775807 : Int); omega) (by show _ ≤ (9223372036854775807 : Int); omega) (by show _ ≤ (9223372036854775807 : Int); omega)) ?_
    refine AList.c 100 rfl rfl rfl (OpJ.callP (Blame_v l bad (good ||| s) hb hC hbl hgs hz) rfl rfl rfl rfl rf17) ?_
    refine AList.c 94 rfl rfl rfl (OpJ.move rfl rfl) ?_
    refine AList.c 101 rfl rfl rfl (OpJ.extract rfl rfl rfl) ?_
    refine AList.c 102 rfl rfl rfl (OpJ.extract rfl rfl rfl) ?_
    refine AList.c 17 rfl rfl rfl (OpJ.assign rfl rfl) ?_
    refine AList.c 18 rfl rfl rfl (OpJ.assign rfl rfl) ?_
    refine AList.nil ?_
    refine AWp.seq ?_
    refine AWp.region ?_
    refine AList.c 104 rfl rfl rfl (OpJ.move rfl rfl) ?_
    refine AList.c 105 rfl rfl rfl (OpJ.move rfl rfl) ?_
    refine AList.c 106 rfl rfl rfl (OpJ.move rfl rfl) ?_
    refine AList.c 107 rfl rfl rfl (OpJ.orN bad s rfl rfl rfl (by show _ ≤ (9223372036854775807 : Int); omega) (by show _ ≤ (9223372036854775807 : Int); omega) (by show _ ≤ (9223372036854775807 : Int); omega)) ?_
    refine AList.c 108 rfl rfl rfl (OpJ.move rfl rfl) ?_
    refine AList.c 109 rfl rfl rfl (OpJ.callP (Recall_v l (bad ||| s) good hb hC hbs hgl hzs) rfl rfl rfl rfl rf19) ?_
    refine AList.c 103 rfl rfl rfl (OpJ.move rfl rfl) ?_
    refine AList.c 110 rfl rfl rfl (OpJ.extract rfl rfl rfl) ?_
    refine AList.c 111 rfl rfl rfl (OpJ.extract rfl rfl rfl) ?_
    refine AList.c 112 rfl rfl rfl (OpJ.extract rfl rfl rfl) ?_
    refine AList.c 20 rfl rfl rfl (OpJ.allocOwn rfl zr32 rfl) ?_
    refine AList.c 19 rfl rfl rfl (OpJ.assign rfl rfl) ?_
    refine AList.c0 rfl rfl (OpJ.store rfl rfl rfl rfl rfl ty32 rfl rfl) ?_
    refine AList.c 21 rfl rfl rfl (OpJ.assign rfl rfl) ?_
    refine AList.nil ?_
    refine AWp.seq ?_
    refine AWp.region ?_
    refine AList.c 114 rfl rfl rfl (OpJ.move rfl rfl) ?_
    refine AList.c 115 rfl rfl rfl (OpJ.move rfl rfl) ?_
    refine AList.c 116 rfl rfl rfl (OpJ.callP (Common_v l bad hb hC hbl hz) rfl rfl rfl rfl rf15) ?_
    refine AList.c 113 rfl rfl rfl (OpJ.move rfl rfl) ?_
    refine AList.c 117 rfl rfl rfl (OpJ.extract rfl rfl rfl) ?_
    refine AList.c 118 rfl rfl rfl (OpJ.extract rfl rfl rfl) ?_
    refine AList.c 119 rfl rfl rfl (OpJ.extract rfl rfl rfl) ?_
    refine AList.c 22 rfl rfl rfl (OpJ.assign rfl rfl) ?_
    refine AList.c 23 rfl rfl rfl (OpJ.assign rfl rfl) ?_
    refine AList.c 24 rfl rfl rfl (OpJ.assign rfl rfl) ?_
    refine AList.nil ?_
    refine AWp.seq ?_
    refine AWp.seq ?_
    have ha1 := blame_lt l (bad ||| s) good
    have ha2 := blame_lt l bad (good ||| s)
    have ha3 := blame_lt l bad good
    have ha4 := call_lt h24 ha1
    have ha5 := call_lt h24 ha3
    refine AWp.norm [] [(0, _), (1, _), (2, _), (9, _), (10, _), (11, _), (13, _), (15, _), (16, _), (17, _), (18, _), (19, _), (21, _), (22, _), (23, _), (24, _)] [] rfl (by repeat (first | exact Sub.nil | refine Sub.cons rfl ?_)) rfl ?_
    refine AWp.region ?_
    refine AList.c 120 rfl rfl rfl (OpJ.move rfl rfl) ?_
    refine AList.c 121 rfl rfl rfl (OpJ.move rfl rfl) ?_
    refine AList.c 122 rfl rfl rfl (OpJ.neq rfl rfl rfl) ?_
    refine AList.c 123 rfl rfl rfl (OpJ.move rfl rfl) ?_
    refine AList.g 124 123 rfl rfl rfl rfl rfl rfl rfl [(15, _)] (fun h => And.intro (.inl rfl) (trivial)) (fun h => (OpJ.move rfl rfl)) ?_
    refine AList.g 125 123 rfl rfl rfl rfl rfl rfl rfl [(9, _)] (fun h => And.intro (.inl rfl) (trivial)) (fun h => (OpJ.move rfl rfl)) ?_
    refine AList.g 126 123 rfl rfl rfl rfl rfl rfl rfl [(124, _), (125, _)] (fun h => And.intro (.inr ⟨_, rfl, h⟩) (And.intro (.inr ⟨_, rfl, h⟩) (trivial))) (fun h => (OpJ.andNotN (blameN l (bad ||| s) good) (blameN l bad good) rfl rfl rfl (by first | (show _ ≤ (9223372036854775807 : Int); omega) | (show _ ≤ (4294967295 : Int); omega)))) ?_
    refine AList.g 127 123 rfl rfl rfl rfl rfl rfl rfl [(126, _)] (fun h => And.intro (.inr ⟨_, rfl, h⟩) (trivial)) (fun h => (OpJ.neq rfl rfl rfl)) ?_
    refine AList.c 128 rfl rfl rfl (OpJ.or_ rfl rfl rfl ?_) ?_
    · first | (intro h; rw [h]; rfl) | (intro h; simp_all)
    refine AList.c 129 rfl rfl rfl (OpJ.move rfl rfl) ?_
    refine AList.g 130 129 rfl rfl rfl rfl rfl rfl rfl [(17, _)] (fun h => And.intro (.inl rfl) (trivial)) (fun h => (OpJ.move rfl rfl)) ?_
    refine AList.g 131 129 rfl rfl rfl rfl rfl rfl rfl [(9, _)] (fun h => And.intro (.inl rfl) (trivial)) (fun h => (OpJ.move rfl rfl)) ?_
    refine AList.g 132 129 rfl rfl rfl rfl rfl rfl rfl [(130, _), (131, _)] (fun h => And.intro (.inr ⟨_, rfl, h⟩) (And.intro (.inr ⟨_, rfl, h⟩) (trivial))) (fun h => (OpJ.andNotN (blameN l bad (good ||| s)) (blameN l bad good) rfl rfl rfl (by first | (show _ ≤ (9223372036854775807 : Int); omega) | (show _ ≤ (4294967295 : Int); omega)))) ?_
    refine AList.g 133 129 rfl rfl rfl rfl rfl rfl rfl [(132, _)] (fun h => And.intro (.inr ⟨_, rfl, h⟩) (trivial)) (fun h => (OpJ.neq rfl rfl rfl)) ?_
    refine AList.c 134 rfl rfl rfl (OpJ.or_ rfl rfl rfl ?_) ?_
    · first | (intro h; rw [h]; rfl) | (intro h; simp_all)
    refine AList.c 135 rfl rfl rfl (OpJ.move rfl rfl) ?_
    refine AList.g 136 135 rfl rfl rfl rfl rfl rfl rfl [(19, _)] (fun h => And.intro (.inl rfl) (trivial)) (fun h => (OpJ.move rfl rfl)) ?_
    refine AList.g 137 135 rfl rfl rfl rfl rfl rfl rfl [(11, _)] (fun h => And.intro (.inl rfl) (trivial)) (fun h => (OpJ.move rfl rfl)) ?_
    refine AList.g 138 135 rfl rfl rfl rfl rfl rfl rfl [(136, _), (137, _)] (fun h => And.intro (.inr ⟨_, rfl, h⟩) (And.intro (.inr ⟨_, rfl, h⟩) (trivial))) (fun h => (OpJ.andNotN (callN l (blameN l (bad ||| s) good)) (callN l (blameN l bad good)) rfl rfl rfl (by first | (show _ ≤ (9223372036854775807 : Int); omega) | (show _ ≤ (4294967295 : Int); omega)))) ?_
    refine AList.g 139 135 rfl rfl rfl rfl rfl rfl rfl [(138, _)] (fun h => And.intro (.inr ⟨_, rfl, h⟩) (trivial)) (fun h => (OpJ.neq rfl rfl rfl)) ?_
    refine AList.c 140 rfl rfl rfl (OpJ.or_ rfl rfl rfl ?_) ?_
    · first | (intro h; rw [h]; rfl) | (intro h; simp_all)
    refine AList.c 141 rfl rfl rfl (OpJ.move rfl rfl) ?_
    refine AList.g 142 141 rfl rfl rfl rfl rfl rfl rfl [(10, _)] (fun h => And.intro (.inl rfl) (trivial)) (fun h => (OpJ.move rfl rfl)) ?_
    refine AList.g 143 141 rfl rfl rfl rfl rfl rfl rfl [(142, _)] (fun h => And.intro (.inr ⟨_, rfl, h⟩) (trivial)) (fun h => (OpJ.neq rfl rfl rfl)) ?_
    refine AList.g 144 141 rfl rfl rfl rfl rfl rfl rfl [(143, _)] (fun h => And.intro (.inr ⟨_, rfl, h⟩) (trivial)) (fun h => (OpJ.move rfl rfl)) ?_
    refine AList.g 145 144 rfl rfl rfl rfl rfl rfl rfl [(16, _)] (fun h => And.intro (.inl rfl) (trivial)) (fun h => (OpJ.move rfl rfl)) ?_
    refine AList.g 146 144 rfl rfl rfl rfl rfl rfl rfl [(145, _)] (fun h => And.intro (.inr ⟨_, rfl, h⟩) (trivial)) (fun h => (OpJ.eql rfl rfl rfl)) ?_
    refine AList.g 147 144 rfl rfl rfl rfl rfl rfl rfl [(146, _)] (fun h => And.intro (.inr ⟨_, rfl, h⟩) (trivial)) (fun h => (OpJ.move rfl rfl)) ?_
    refine AList.g 148 147 rfl rfl rfl rfl rfl rfl rfl [(18, _)] (fun h => And.intro (.inl rfl) (trivial)) (fun h => (OpJ.move rfl rfl)) ?_
    refine AList.g 149 147 rfl rfl rfl rfl rfl rfl rfl [(148, _)] (fun h => And.intro (.inr ⟨_, rfl, h⟩) (trivial)) (fun h => (OpJ.eql rfl rfl rfl)) ?_
    refine AList.g 150 144 rfl rfl rfl rfl rfl rfl rfl [(147, _), (149, _)] (fun h => And.intro (.inr ⟨_, rfl, h⟩) (And.intro (.inl rfl) (trivial))) (fun h => (OpJ.or_ rfl rfl rfl ?_)) ?_
    · first | (intro h; rw [h]; rfl) | (intro h; simp_all)
    refine AList.g 151 144 rfl rfl rfl rfl rfl rfl rfl [(150, _)] (fun h => And.intro (.inr ⟨_, rfl, h⟩) (trivial)) (fun h => (OpJ.move rfl rfl)) ?_
    refine AList.g 152 151 rfl rfl rfl rfl rfl rfl rfl [(21, _)] (fun h => And.intro (.inl rfl) (trivial)) (fun h => (OpJ.move rfl rfl)) ?_
    refine AList.g 153 151 rfl rfl rfl rfl rfl rfl rfl [(152, _)] (fun h => And.intro (.inr ⟨_, rfl, h⟩) (trivial)) (fun h => (OpJ.eql rfl rfl rfl)) ?_
    refine AList.g 154 144 rfl rfl rfl rfl rfl rfl rfl [(151, _), (153, _)] (fun h => And.intro (.inr ⟨_, rfl, h⟩) (And.intro (.inl rfl) (trivial))) (fun h => (OpJ.or_ rfl rfl rfl ?_)) ?_
    · first | (intro h; rw [h]; rfl) | (intro h; simp_all)
    refine AList.g 155 141 rfl rfl rfl rfl rfl rfl rfl [(144, _), (154, _)] (fun h => And.intro (.inr ⟨_, rfl, h⟩) (And.intro (.inl rfl) (trivial))) (fun h => (OpJ.and_ rfl rfl rfl ?_)) ?_
    · first | (intro h; rw [h]; rfl) | (intro h; simp_all)
    refine AList.c 156 rfl rfl rfl (OpJ.or_ rfl rfl rfl ?_) ?_
    · first | (intro h; rw [h]; rfl) | (intro h; simp_all)
    refine AList.nil ?_
    refine AWp.cond _ rfl (fun hc1 => ?_) (fun hc1 => ?_)
    · skip
      exfalso
      rw [blame_bad, blame_good, call_mono h24 (blame_lt l (bad ||| s) good) (blame_lt l bad good) (blame_bad l bad good s)] at hc1
      by_cases hcan : blameN l bad good = 0
      · rw [sub_zero (blame_bad l bad good s) hcan, sub_zero (blame_good l bad good s) hcan, hcan] at hc1; simp at hc1
      · rw [if_neg hcan] at hc1; simp at hc1
    · skip
      refine AWp.skip ?_
      refine AWp.seq ?_
      refine AWp.seq ?_
      refine AWp.region ?_
      refine AList.c 157 rfl rfl rfl (OpJ.move rfl rfl) ?_
      refine AList.c 158 rfl rfl rfl (OpJ.neq rfl rfl rfl) ?_
      refine AList.nil ?_
      refine AWp.cond _ rfl (fun hc2 => ?_) (fun hc2 => ?_)
      · skip
        have ho : (blameN l bad 0) = 0 := by by_cases h : (blameN l bad 0) = 0; { exact h }; { rw [if_neg h] at hc2; simp at hc2 }
        have hcan : blameN l bad good = 0 := sub_zero (blame_all l bad good) ho
        have hl0 : lastN l 0 = 0 := by unfold lastN; rw [show bitsN 0 32 = [] by decide]; rfl
        refine AWp.seq ?_
        refine AWp.region ?_
        refine AList.c 159 rfl rfl rfl (OpJ.move rfl rfl) ?_
        refine AList.c 160 rfl rfl rfl (OpJ.eql rfl rfl rfl) ?_
        refine AList.c 161 rfl rfl rfl (OpJ.move rfl rfl) ?_
        refine AList.g 162 161 rfl rfl rfl rfl rfl rfl rfl [(23, _)] (fun h => And.intro (.inl rfl) (trivial)) (fun h => (OpJ.move rfl rfl)) ?_
        refine AList.g 163 161 rfl rfl rfl rfl rfl rfl rfl [(162, _)] (fun h => And.intro (.inr ⟨_, rfl, h⟩) (trivial)) (fun h => (OpJ.eql rfl rfl rfl)) ?_
        refine AList.c 164 rfl rfl rfl (OpJ.and_ rfl rfl rfl ?_) ?_
        · first | (intro h; rw [h]; rfl) | (intro h; simp_all)
        refine AList.c 165 rfl rfl rfl (OpJ.move rfl rfl) ?_
        refine AList.g 166 165 rfl rfl rfl rfl rfl rfl rfl [(24, _)] (fun h => And.intro (.inl rfl) (trivial)) (fun h => (OpJ.move rfl rfl)) ?_
        refine AList.g 167 165 rfl rfl rfl rfl rfl rfl rfl [(166, _)] (fun h => And.intro (.inr ⟨_, rfl, h⟩) (trivial)) (fun h => (OpJ.eql rfl rfl rfl)) ?_
        refine AList.c 168 rfl rfl rfl (OpJ.and_ rfl rfl rfl ?_) ?_
        · first | (intro h; rw [h]; rfl) | (intro h; simp_all)
        refine AList.c 169 rfl rfl rfl (OpJ.move rfl rfl) ?_
        refine AList.g 170 169 rfl rfl rfl rfl rfl rfl rfl [(10, _)] (fun h => And.intro (.inl rfl) (trivial)) (fun h => (OpJ.move rfl rfl)) ?_
        refine AList.g 171 169 rfl rfl rfl rfl rfl rfl rfl [(170, _)] (fun h => And.intro (.inr ⟨_, rfl, h⟩) (trivial)) (fun h => (OpJ.eql rfl rfl rfl)) ?_
        refine AList.c 172 rfl rfl rfl (OpJ.and_ rfl rfl rfl ?_) ?_
        · first | (intro h; rw [h]; rfl) | (intro h; simp_all)
        refine AList.c 173 rfl rfl rfl (OpJ.move rfl rfl) ?_
        refine AList.g 174 173 rfl rfl rfl rfl rfl rfl rfl [] (fun h => trivial) (fun h => (OpJ.callP (awake_ok) rfl rfl rfl rfl rf10)) ?_
        refine AList.c 175 rfl rfl rfl (OpJ.and_ rfl rfl rfl ?_) ?_
        · first | (intro h; rw [h]; rfl) | (intro h; simp_all)
        refine AList.c 8 rfl rfl rfl (OpJ.assign rfl rfl) ?_
        refine AList.nil ?_
        refine AWp.ret ?_
        refine Fin.oneE rfl rfl ?_
        simp [ho, hcan, hl0]
      · skip
        have ho : (blameN l bad 0) ≠ 0 := by intro h; rw [if_pos h] at hc2; simp at hc2
        have hol := blame_lt l bad 0
        have hll := last_lt h24 hol
        have hln := last_ne h24 hol ho
        refine AWp.skip ?_
        refine AWp.seq ?_
        refine AWp.seq ?_
        refine AWp.region ?_
        refine AList.c 176 rfl rfl rfl (OpJ.move rfl rfl) ?_
        refine AList.c 177 rfl rfl rfl (OpJ.move rfl rfl) ?_
        refine AList.c 178 rfl rfl rfl (OpJ.andNotN (blameN l bad good) (blameN l bad 0) rfl rfl rfl (by first | (show _ ≤ (9223372036854775807 : Int); omega) | (show _ ≤ (4294967295 : Int); omega))) ?_
        refine AList.c 179 rfl rfl rfl (OpJ.neq rfl rfl rfl) ?_
        refine AList.c 180 rfl rfl rfl (OpJ.move rfl rfl) ?_
        refine AList.g 181 180 rfl rfl rfl rfl rfl rfl rfl [(23, _)] (fun h => And.intro (.inl rfl) (trivial)) (fun h => (OpJ.move rfl rfl)) ?_
        refine AList.g 182 180 rfl rfl rfl rfl rfl rfl rfl [(181, _)] (fun h => And.intro (.inr ⟨_, rfl, h⟩) (trivial)) (fun h => (OpJ.eql rfl rfl rfl)) ?_
        refine AList.c 183 rfl rfl rfl (OpJ.or_ rfl rfl rfl ?_) ?_
        · first | (intro h; rw [h]; rfl) | (intro h; simp_all)
        refine AList.c 184 rfl rfl rfl (OpJ.move rfl rfl) ?_
        refine AList.g 185 184 rfl rfl rfl rfl rfl rfl rfl [(23, _)] (fun h => And.intro (.inl rfl) (trivial)) (fun h => (OpJ.move rfl rfl)) ?_
        refine AList.g 186 184 rfl rfl rfl rfl rfl rfl rfl [(22, _)] (fun h => And.intro (.inl rfl) (trivial)) (fun h => (OpJ.move rfl rfl)) ?_
        refine AList.g 187 184 rfl rfl rfl rfl rfl rfl rfl [(185, _), (186, _)] (fun h => And.intro (.inr ⟨_, rfl, h⟩) (And.intro (.inr ⟨_, rfl, h⟩) (trivial))) (fun h => (OpJ.andNotN (lastN l (blameN l bad 0)) (blameN l bad 0) rfl rfl rfl (by first | (show _ ≤ (9223372036854775807 : Int); omega) | (show _ ≤ (4294967295 : Int); omega)))) ?_
        refine AList.g 188 184 rfl rfl rfl rfl rfl rfl rfl [(187, _)] (fun h => And.intro (.inr ⟨_, rfl, h⟩) (trivial)) (fun h => (OpJ.neq rfl rfl rfl)) ?_
        refine AList.c 189 rfl rfl rfl (OpJ.or_ rfl rfl rfl ?_) ?_
        · first | (intro h; rw [h]; rfl) | (intro h; simp_all)
        refine AList.c 190 rfl rfl rfl (OpJ.move rfl rfl) ?_
        refine AList.g 191 190 rfl rfl rfl rfl rfl rfl rfl [(22, _)] (fun h => And.intro (.inl rfl) (trivial)) (fun h => (OpJ.move rfl rfl)) ?_
        refine AList.g 192 190 rfl rfl rfl rfl rfl rfl rfl [(191, _)] (fun h => And.intro (.inr ⟨_, rfl, h⟩) (trivial)) (fun h => (OpJ.lss rfl rfl rfl)) ?_
        refine AList.c 193 rfl rfl rfl (OpJ.or_ rfl rfl rfl ?_) ?_
        · first | (intro h; rw [h]; rfl) | (intro h; simp_all)
        refine AList.c 194 rfl rfl rfl (OpJ.move rfl rfl) ?_
        refine AList.g 195 194 rfl rfl rfl rfl rfl rfl rfl [(22, _)] (fun h => And.intro (.inl rfl) (trivial)) (fun h => (OpJ.move rfl rfl)) ?_
        refine AList.g 196 194 rfl rfl rfl rfl rfl rfl rfl [(0, _)] (fun h => And.intro (.inl rfl) (trivial)) (fun h => (OpJ.move rfl rfl)) ?_
        refine AList.g 197 194 rfl rfl rfl rfl rfl rfl rfl [(196, _)] (fun h => And.intro (.inr ⟨_, rfl, h⟩) (trivial)) (fun h => (OpJ.lenSlice rfl rfl sl22 rfl)) ?_
        refine AList.g 198 194 rfl rfl rfl rfl rfl rfl rfl [(197, _)] (fun h => And.intro (.inr ⟨_, rfl, h⟩) (trivial)) (fun h => (OpJ.shlN 1 l.length rfl rfl rfl (by show _ ≤ (64 : Nat); omega) (by show _ ≤ (9223372036854775807 : Int); rw [Nat.one_mul]; omega))) ?_
        refine AList.g 199 194 rfl rfl rfl rfl rfl rfl rfl [(195, _), (198, _)] (fun h => And.intro (.inr ⟨_, rfl, h⟩) (And.intro (.inr ⟨_, rfl, h⟩) (trivial))) (fun h => (OpJ.geq rfl rfl rfl)) ?_
        refine AList.c 200 rfl rfl rfl (OpJ.or_ rfl rfl rfl ?_) ?_
        · first | (intro h; rw [h]; rfl) | (intro h; simp_all)
        refine AList.nil ?_
        refine AWp.cond _ rfl (fun hc3 => ?_) (fun hc3 => ?_)
        · skip
          exfalso
          rw [blame_all, last_sub h24 hol] at hc3
          simp only [Bool.or_eq_true, Bool.and_eq_true, Bool.and_true, Bool.true_and, Bool.not_eq_true', decide_eq_true_eq, decide_eq_false_iff_not, Bool.not_true, Bool.not_false, Bool.false_eq_true, or_false, false_or, not_true_eq_false, Nat.one_mul] at hc3
          omega
        · skip
          refine AWp.skip ?_
          refine AWp.seq ?_
          refine AWp.seq ?_
          refine AWp.norm [] [(0, _), (1, _), (2, _), (22, _), (23, _), (24, _)] [] rfl (by repeat (first | exact Sub.nil | refine Sub.cons rfl ?_)) rfl ?_
          refine AWp.region ?_
          refine AList.c 25 rfl rfl rfl (OpJ.assign rfl rfl) ?_
          refine AList.nil ?_
          refine AWp.block ?_
          refine AWp.loopKL [0, 1, 22, 23, 247] (fun g => [(25, .p (.int .i64 ((g : Nat) : Int)))]) (fun g => g ≤ l.length) (fun g => l.length - g) 0 (Nat.zero_le _) (Sub.cons rfl (Sub.nil)) (fun i hg => ?_)
          refine AWp.seq ?_
          refine AWp.seq ?_
          refine AWp.region ?_
          refine AList.c 201 rfl rfl rfl (OpJ.move rfl rfl) ?_
          refine AList.c 202 rfl rfl rfl (OpJ.move rfl rfl) ?_
          refine AList.c 203 rfl rfl rfl (OpJ.lenSlice rfl rfl sl22 rfl) ?_
          refine AList.c 204 rfl rfl rfl (OpJ.lss rfl rfl rfl) ?_
          refine AList.nil ?_
          refine AWp.cond _ rfl (fun hc4 => ?_) (fun hc4 => ?_)
          · skip
            have hk0 : i < l.length := by have h := of_decide_eq_true hc4; omega
            have hal := (way_ahead hC).rlt i hk0
            have hd1 := Nat.div_le_self (blameN l bad 0) (2 ^ i)
            have hd2 := Nat.div_le_self (lastN l (blameN l bad 0)) (2 ^ i)
            have hpi := Nat.pow_le_pow_right (show 0 < 2 by omega) (show i ≤ 24 by omega)
            refine AWp.skip ?_
            refine AWp.seq ?_
            refine AWp.block ?_
            refine AWp.seq ?_
            refine AWp.region ?_
            refine AList.c 208 rfl rfl rfl (OpJ.move rfl rfl) ?_
            refine AList.c 209 rfl rfl rfl (OpJ.move rfl rfl) ?_
            refine AList.c 210 rfl rfl rfl (OpJ.callP (Ahead_in l i hb hC hk0) rfl rfl rfl rfl rf13) ?_
            refine AList.c 207 rfl rfl rfl (OpJ.move rfl rfl) ?_
            refine AList.c 211 rfl rfl rfl (OpJ.extract rfl rfl rfl) ?_
            refine AList.c 212 rfl rfl rfl (OpJ.extract rfl rfl rfl) ?_
            refine AList.c 26 rfl rfl rfl (OpJ.assign rfl rfl) ?_
            refine AList.c 27 rfl rfl rfl (OpJ.assign rfl rfl) ?_
            refine AList.nil ?_
            refine AWp.seq ?_
            refine AWp.seq ?_
            refine AWp.region ?_
            refine AList.c 213 rfl rfl rfl (OpJ.move rfl rfl) ?_
            refine AList.c 214 rfl rfl rfl (OpJ.neq rfl rfl rfl) ?_
            refine AList.nil ?_
            refine AWp.cond _ rfl (fun hc5 => ?_) (fun hc5 => ?_)
            · skip
              exfalso
              simp at hc5
            · skip
              refine AWp.skip ?_
              refine AWp.seq ?_
              refine AWp.region ?_
              refine AList.c 215 rfl rfl rfl (OpJ.move rfl rfl) ?_
              refine AList.c 216 rfl rfl rfl (OpJ.move rfl rfl) ?_
              refine AList.c 217 rfl rfl rfl (OpJ.shrN (blameN l bad 0) i rfl rfl rfl (by first | decide | (show _ ≤ (9223372036854775807 : Int); omega) | (show _ ≤ (4294967295 : Int); omega))) ?_
              refine AList.c 218 rfl rfl rfl (OpJ.andN ((blameN l bad 0) / 2 ^ i) 1 rfl rfl rfl (by first | (show _ ≤ (9223372036854775807 : Int); omega) | (show _ ≤ (4294967295 : Int); omega)) (by first | decide | (show _ ≤ (9223372036854775807 : Int); omega) | (show _ ≤ (4294967295 : Int); omega))) ?_
              refine AList.c 219 rfl rfl rfl (OpJ.eql rfl rfl rfl) ?_
              refine AList.c 220 rfl rfl rfl (OpJ.move rfl rfl) ?_
              refine AList.g 221 220 rfl rfl rfl rfl rfl rfl rfl [(26, _)] (fun h => And.intro (.inl rfl) (trivial)) (fun h => (OpJ.move rfl rfl)) ?_
              refine AList.g 222 220 rfl rfl rfl rfl rfl rfl rfl [(23, _)] (fun h => And.intro (.inl rfl) (trivial)) (fun h => (OpJ.move rfl rfl)) ?_
              refine AList.g 223 220 rfl rfl rfl rfl rfl rfl rfl [(221, _), (222, _)] (fun h => And.intro (.inr ⟨_, rfl, h⟩) (And.intro (.inr ⟨_, rfl, h⟩) (trivial))) (fun h => (OpJ.andN (aheadN l i) (lastN l (blameN l bad 0)) rfl rfl rfl (by first | (show _ ≤ (9223372036854775807 : Int); omega) | (show _ ≤ (4294967295 : Int); omega)) (by first | decide | (show _ ≤ (9223372036854775807 : Int); omega) | (show _ ≤ (4294967295 : Int); omega)))) ?_
              refine AList.g 224 220 rfl rfl rfl rfl rfl rfl rfl [(223, _)] (fun h => And.intro (.inr ⟨_, rfl, h⟩) (trivial)) (fun h => (OpJ.eql rfl rfl rfl)) ?_
              refine AList.g 225 220 rfl rfl rfl rfl rfl rfl rfl [(224, _)] (fun h => And.intro (.inr ⟨_, rfl, h⟩) (trivial)) (fun h => (OpJ.move rfl rfl)) ?_
              refine AList.g 226 225 rfl rfl rfl rfl rfl rfl rfl [(1, _)] (fun h => And.intro (.inl rfl) (trivial)) (fun h => (OpJ.move rfl rfl)) ?_
              refine AList.g 227 225 rfl rfl rfl rfl rfl rfl rfl [(26, _)] (fun h => And.intro (.inl rfl) (trivial)) (fun h => (OpJ.move rfl rfl)) ?_
              refine AList.g 228 225 rfl rfl rfl rfl rfl rfl rfl [(226, _), (227, _)] (fun h => And.intro (.inr ⟨_, rfl, h⟩) (And.intro (.inr ⟨_, rfl, h⟩) (trivial))) (fun h => (OpJ.andNotN bad (aheadN l i) rfl rfl rfl (by first | (show _ ≤ (9223372036854775807 : Int); omega) | (show _ ≤ (4294967295 : Int); omega)))) ?_
              refine AList.g 229 225 rfl rfl rfl rfl rfl rfl rfl [(228, _)] (fun h => And.intro (.inr ⟨_, rfl, h⟩) (trivial)) (fun h => (OpJ.neq rfl rfl rfl)) ?_
              refine AList.g 230 220 rfl rfl rfl rfl rfl rfl rfl [(225, _), (229, _)] (fun h => And.intro (.inr ⟨_, rfl, h⟩) (And.intro (.inl rfl) (trivial))) (fun h => (OpJ.or_ rfl rfl rfl ?_)) ?_
              · first | (intro h; rw [h]; rfl) | (intro h; simp_all)
              refine AList.c 231 rfl rfl rfl (OpJ.and_ rfl rfl rfl ?_) ?_
              · first | (intro h; rw [h]; rfl) | (intro h; simp_all)
              refine AList.c 232 rfl rfl rfl (OpJ.move rfl rfl) ?_
              refine AList.g 233 232 rfl rfl rfl rfl rfl rfl rfl [(23, _)] (fun h => And.intro (.inl rfl) (trivial)) (fun h => (OpJ.move rfl rfl)) ?_
              refine AList.g 234 232 rfl rfl rfl rfl rfl rfl rfl [(25, _)] (fun h => And.intro (.inl rfl) (trivial)) (fun h => (OpJ.move rfl rfl)) ?_
              refine AList.g 235 232 rfl rfl rfl rfl rfl rfl rfl [(233, _), (234, _)] (fun h => And.intro (.inr ⟨_, rfl, h⟩) (And.intro (.inr ⟨_, rfl, h⟩) (trivial))) (fun h => (OpJ.shrN (lastN l (blameN l bad 0)) i rfl rfl rfl (by first | decide | (show _ ≤ (9223372036854775807 : Int); omega) | (show _ ≤ (4294967295 : Int); omega)))) ?_
              refine AList.g 236 232 rfl rfl rfl rfl rfl rfl rfl [(235, _)] (fun h => And.intro (.inr ⟨_, rfl, h⟩) (trivial)) (fun h => (OpJ.andN ((lastN l (blameN l bad 0)) / 2 ^ i) 1 rfl rfl rfl (by first | (show _ ≤ (9223372036854775807 : Int); omega) | (show _ ≤ (4294967295 : Int); omega)) (by first | decide | (show _ ≤ (9223372036854775807 : Int); omega) | (show _ ≤ (4294967295 : Int); omega)))) ?_
              refine AList.g 237 232 rfl rfl rfl rfl rfl rfl rfl [(236, _)] (fun h => And.intro (.inr ⟨_, rfl, h⟩) (trivial)) (fun h => (OpJ.eql rfl rfl rfl)) ?_
              refine AList.g 238 232 rfl rfl rfl rfl rfl rfl rfl [(237, _)] (fun h => And.intro (.inr ⟨_, rfl, h⟩) (trivial)) (fun h => (OpJ.move rfl rfl)) ?_
              refine AList.g 239 238 rfl rfl rfl rfl rfl rfl rfl [(26, _)] (fun h => And.intro (.inl rfl) (trivial)) (fun h => (OpJ.move rfl rfl)) ?_
              refine AList.g 240 238 rfl rfl rfl rfl rfl rfl rfl [(22, _)] (fun h => And.intro (.inl rfl) (trivial)) (fun h => (OpJ.move rfl rfl)) ?_
              refine AList.g 241 238 rfl rfl rfl rfl rfl rfl rfl [(239, _), (240, _)] (fun h => And.intro (.inr ⟨_, rfl, h⟩) (And.intro (.inr ⟨_, rfl, h⟩) (trivial))) (fun h => (OpJ.andN (aheadN l i) (blameN l bad 0) rfl rfl rfl (by first | (show _ ≤ (9223372036854775807 : Int); omega) | (show _ ≤ (4294967295 : Int); omega)) (by first | decide | (show _ ≤ (9223372036854775807 : Int); omega) | (show _ ≤ (4294967295 : Int); omega)))) ?_
              refine AList.g 242 238 rfl rfl rfl rfl rfl rfl rfl [(25, _)] (fun h => And.intro (.inl rfl) (trivial)) (fun h => (OpJ.move rfl rfl)) ?_
              refine AList.g 243 238 rfl rfl rfl rfl rfl rfl rfl [(242, _)] (fun h => And.intro (.inr ⟨_, rfl, h⟩) (trivial)) (fun h => (OpJ.shlN 1 i rfl rfl rfl (by show _ ≤ (64 : Nat); omega) (by show _ ≤ (9223372036854775807 : Int); rw [Nat.one_mul]; omega))) ?_
              refine AList.g 244 238 rfl rfl rfl rfl rfl rfl rfl [(241, _), (243, _)] (fun h => And.intro (.inr ⟨_, rfl, h⟩) (And.intro (.inr ⟨_, rfl, h⟩) (trivial))) (fun h => (OpJ.neq rfl rfl rfl)) ?_
              refine AList.g 245 232 rfl rfl rfl rfl rfl rfl rfl [(238, _), (244, _)] (fun h => And.intro (.inr ⟨_, rfl, h⟩) (And.intro (.inl rfl) (trivial))) (fun h => (OpJ.and_ rfl rfl rfl ?_)) ?_
              · first | (intro h; rw [h]; rfl) | (intro h; simp_all)
              refine AList.c 246 rfl rfl rfl (OpJ.or_ rfl rfl rfl ?_) ?_
              · first | (intro h; rw [h]; rfl) | (intro h; simp_all)
              refine AList.nil ?_
              refine AWp.cond _ rfl (fun hc6 => ?_) (fun hc6 => ?_)
              · skip
                exfalso
                rw [bitE, bitE] at hc6
                rcases Bool.or_eq_true_iff.1 hc6 with h | h
                · obtain ⟨h1, h2⟩ := Bool.and_eq_true_iff.1 h
                  rw [bad_ahead hbl h1] at h2
                  have h3 := ahead_last h24 hol h1
                  simp at h2
                  omega
                · obtain ⟨h1, h2⟩ := Bool.and_eq_true_iff.1 h
                  rw [last_only h24 hol h1, Nat.one_mul] at h2
                  simp at h2
              · skip
                refine AWp.skip ?_
                refine AWp.region ?_
                refine AList.c 205 rfl rfl rfl (OpJ.move rfl rfl) ?_
                refine AList.c 206 rfl rfl rfl (OpJ.add rfl rfl rfl (i64ok ?_)) ?_
                · omega
                refine AList.c 25 rfl rfl rfl (OpJ.assign rfl rfl) ?_
                refine AList.nil ?_
                refine ⟨i + 1, ?_, ?_, ?_⟩
                · omega
                · omega
                exact To.done [] rfl (by repeat (first | exact Sub.nil | refine Sub.cons rfl ?_)) rfl
          · skip
            obtain rfl : i = l.length := by have h := of_decide_eq_false hc4; omega
            refine AWp.exit ?_
            refine AWp.seq ?_
            refine AWp.region ?_
            refine AList.c 247 rfl rfl rfl (OpJ.callP (awake_ok) rfl rfl rfl rfl rf10) ?_
            refine AList.c 8 rfl rfl rfl (OpJ.assign rfl rfl) ?_
            refine AList.nil ?_
            refine AWp.ret ?_
            exact Fin.one rfl (rfl)
theorem recallMore_law {x0 x1 x2 x3 : List PV} (h0 : TyL [.sl [.leaf (.int .i64), .leaf (.int .i64)]] x0) (h1 : TyL [.leaf (.int .i64)] x1) (h2 : TyL [.leaf (.int .i64)] x2) (h3 : TyL [.leaf (.int .u32)] x3) : Pure Tryd.prog 8 [argP false x0, argP false x1, argP false x2, argP false x3] (.bool true) := by
  obtain ⟨l, rfl, hl⟩ := bats_of h0
  obtain ⟨b, rfl⟩ := int_of h1
  obtain ⟨g, rfl⟩ := int_of h2
  obtain ⟨m, rfl, hm⟩ := u32_of h3
  exact recallMore_main l b g m hl hm
end Go.Proofs.YtlalikkkobpfgaaDoor
