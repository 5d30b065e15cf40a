/-
  The law RecallTrue.
-/
import Derived.Test.YtlalikkkobpfgaaDoorRc8
import Derived.Test.YtlalikkkobpfgaaDoorRcT
set_option linter.unusedVariables false
set_option maxRecDepth 100000
set_option maxHeartbeats 4000000
set_option linter.unusedSimpArgs false
namespace Go.Proofs.YtlalikkkobpfgaaDoor
open Go.AF
theorem recallTrue_main (l : List Bat) (w8 sn : Nat) (hb : l.length ≤ bigN) (hw : w8 ≤ 255) (hs : sn < 2 ^ 32) : Pure Tryd.prog 5 [batV l, .int .u8 (w8 : Int), .int .u32 (sn : Int)] (.bool true) := by
  have hb2 := hb
  unfold bigN at hb2
  refine Pure.start (N := 187) Tryd.func5 rfl rfl (Nat.le_of_ble_eq_true rfl) ?_
  refine AWp.seq ?_
  refine AWp.region ?_
  refine AList.c 6 rfl rfl rfl (OpJ.assign rfl rfl) ?_
  refine AList.nil ?_
  refine AWp.seq ?_
  refine AWp.seq ?_
  refine AWp.region ?_
  refine AList.c 21 rfl rfl rfl (OpJ.move rfl rfl) ?_
  refine AList.c 22 rfl rfl rfl (OpJ.lenSlice rfl rfl sl22 rfl) ?_
  refine AList.c 23 rfl rfl rfl (OpJ.eql rfl rfl rfl) ?_
  refine AList.c 24 rfl rfl rfl (OpJ.move rfl rfl) ?_
  refine AList.g 25 24 rfl rfl rfl rfl rfl rfl rfl [(0, _)] (fun h => And.intro (.inl rfl) (trivial)) (fun h => (OpJ.move rfl rfl)) ?_
  refine AList.g 26 24 rfl rfl rfl rfl rfl rfl rfl [(25, _)] (fun h => And.intro (.inr ⟨_, rfl, h⟩) (trivial)) (fun h => (OpJ.lenSlice rfl rfl sl22 rfl)) ?_
  refine AList.g 27 24 rfl rfl rfl rfl rfl rfl rfl [(26, _)] (fun h => And.intro (.inr ⟨_, rfl, h⟩) (trivial)) (fun h => (OpJ.gtr rfl rfl rfl)) ?_
  refine AList.c 28 rfl rfl rfl (OpJ.or_ rfl rfl rfl ?_) ?_
  · first | (intro h; rw [h]; rfl) | (intro h; simp_all)
  refine AList.c 29 rfl rfl rfl (OpJ.move rfl rfl) ?_
  refine AList.g 30 29 rfl rfl rfl rfl rfl rfl rfl [(0, _)] (fun h => And.intro (.inl rfl) (trivial)) (fun h => (OpJ.move rfl rfl)) ?_
  refine AList.g 31 29 rfl rfl rfl rfl rfl rfl rfl [(30, _)] (fun h => And.intro (.inr ⟨_, rfl, h⟩) (trivial)) (fun h => (OpJ.callP (rcards_ok l hb) rfl rfl rfl rfl rf21)) ?_
  refine AList.g 32 29 rfl rfl rfl rfl rfl rfl rfl [(31, _)] (fun h => And.intro (.inr ⟨_, rfl, h⟩) (trivial)) (fun h => (OpJ.not_ rfl rfl)) ?_
  refine AList.c 33 rfl rfl rfl (OpJ.or_ rfl rfl rfl ?_) ?_
  · first | (intro h; rw [h]; rfl) | (intro h; simp_all)
  refine AList.nil ?_
  refine AWp.cond _ rfl (fun hc0 => ?_) (fun hc0 => ?_)
  · skip
    refine AWp.seq ?_
    refine AWp.region ?_
    refine AList.c 34 rfl rfl rfl (OpJ.callP (awake_ok) rfl rfl rfl rfl rf10) ?_
    refine AList.c 6 rfl rfl rfl (OpJ.assign rfl rfl) ?_
    refine AList.nil ?_
    refine AWp.ret ?_
    exact Fin.oneE rfl rfl rfl
  · skip
    have hg : ¬ ((l.length : Int) = 0) ∧ ¬ (l.length : Int) > 30 ∧ crdOk l := by simpa [and_assoc] using hc0
    obtain ⟨hg0, _, hC⟩ := hg
    have h24 := crd24 hC
    have hp24 := Nat.pow_le_pow_right (show 0 < 2 by omega) h24
    have hp1 := Nat.two_pow_pos l.length
    have hn0 : 0 < l.length := by omega
    have ho := Nat.mod_lt w8 hn0
    have hsm := Nat.mod_lt sn hp1
    refine AWp.skip ?_
    refine AWp.seq ?_
    refine AWp.region ?_
    refine AList.c 35 rfl rfl rfl (OpJ.move rfl rfl) ?_
    refine AList.c 36 rfl rfl rfl (OpJ.convInt rfl rfl (by rw [un5]; rfl) un3 (i64ok ?_)) ?_
    · omega
    refine AList.c 37 rfl rfl rfl (OpJ.move rfl rfl) ?_
    refine AList.c 38 rfl rfl rfl (OpJ.lenSlice rfl rfl sl22 rfl) ?_
    refine AList.c 39 rfl rfl rfl (OpJ.rem (m := ((w8 % l.length : Nat) : Int)) rfl rfl rfl ?_ ?_) ?_
    · omega
    · rfl
    refine AList.c 7 rfl rfl rfl (OpJ.assign rfl rfl) ?_
    refine AList.nil ?_
    refine AWp.seq ?_
    generalize hxe : w8 % l.length = x at ho ⊢
    have hal := (way_ahead hC).rlt x ho
    refine AWp.region ?_
    refine AList.c 41 rfl rfl rfl (OpJ.move rfl rfl) ?_
    refine AList.c 42 rfl rfl rfl (OpJ.move rfl rfl) ?_
    refine AList.c 43 rfl rfl rfl (OpJ.callP (Ahead_in l x hb hC ho) rfl rfl rfl rfl rf13) ?_
    refine AList.c 40 rfl rfl rfl (OpJ.move rfl rfl) ?_
    refine AList.c 44 rfl rfl rfl (OpJ.extract rfl rfl rfl) ?_
    refine AList.c 45 rfl rfl rfl (OpJ.extract rfl rfl rfl) ?_
    refine AList.c 8 rfl rfl rfl (OpJ.assign rfl rfl) ?_
    refine AList.c 9 rfl rfl rfl (OpJ.assign rfl rfl) ?_
    refine AList.nil ?_
    refine AWp.seq ?_
    refine AWp.seq ?_
    refine AWp.region ?_
    refine AList.c 46 rfl rfl rfl (OpJ.move rfl rfl) ?_
    refine AList.c 47 rfl rfl rfl (OpJ.neq rfl rfl rfl) ?_
    refine AList.c 48 rfl rfl rfl (OpJ.move rfl rfl) ?_
    refine AList.g 49 48 rfl rfl rfl rfl rfl rfl rfl [(8, _)] (fun h => And.intro (.inl rfl) (trivial)) (fun h => (OpJ.move rfl rfl)) ?_
    refine AList.g 50 48 rfl rfl rfl rfl rfl rfl rfl [(49, _)] (fun h => And.intro (.inr ⟨_, rfl, h⟩) (trivial)) (fun h => (OpJ.lss rfl rfl rfl)) ?_
    refine AList.c 51 rfl rfl rfl (OpJ.or_ rfl rfl rfl ?_) ?_
    · first | (intro h; rw [h]; rfl) | (intro h; simp_all)
    refine AList.c 52 rfl rfl rfl (OpJ.move rfl rfl) ?_
    refine AList.g 53 52 rfl rfl rfl rfl rfl rfl rfl [(8, _)] (fun h => And.intro (.inl rfl) (trivial)) (fun h => (OpJ.move rfl rfl)) ?_
    refine AList.g 54 52 rfl rfl rfl rfl rfl rfl rfl [(0, _)] (fun h => And.intro (.inl rfl) (trivial)) (fun h => (OpJ.move rfl rfl)) ?_
    refine AList.g 55 52 rfl rfl rfl rfl rfl rfl rfl [(54, _)] (fun h => And.intro (.inr ⟨_, rfl, h⟩) (trivial)) (fun h => (OpJ.lenSlice rfl rfl sl22 rfl)) ?_
    refine AList.g 56 52 rfl rfl rfl rfl rfl rfl rfl [(55, _)] (fun h => And.intro (.inr ⟨_, rfl, h⟩) (trivial)) (fun h => (OpJ.shlN 1 l.length rfl rfl rfl (by show _ ≤ (64 : Nat); omega) (by show _ ≤ (9223372036854775807 : Int); rw [Nat.one_mul]; omega))) ?_
    refine AList.g 57 52 rfl rfl rfl rfl rfl rfl rfl [(53, _), (56, _)] (fun h => And.intro (.inr ⟨_, rfl, h⟩) (And.intro (.inr ⟨_, rfl, h⟩) (trivial))) (fun h => (OpJ.geq rfl rfl rfl)) ?_
    refine AList.c 58 rfl rfl rfl (OpJ.or_ rfl rfl rfl ?_) ?_
    · first | (intro h; rw [h]; rfl) | (intro h; simp_all)
    refine AList.c 59 rfl rfl rfl (OpJ.move rfl rfl) ?_
    refine AList.g 60 59 rfl rfl rfl rfl rfl rfl rfl [(8, _)] (fun h => And.intro (.inl rfl) (trivial)) (fun h => (OpJ.move rfl rfl)) ?_
    refine AList.g 61 59 rfl rfl rfl rfl rfl rfl rfl [(7, _)] (fun h => And.intro (.inl rfl) (trivial)) (fun h => (OpJ.move rfl rfl)) ?_
    refine AList.g 62 59 rfl rfl rfl rfl rfl rfl rfl [(60, _), (61, _)] (fun h => And.intro (.inr ⟨_, rfl, h⟩) (And.intro (.inr ⟨_, rfl, h⟩) (trivial))) (fun h => (OpJ.callP (rhas_ok (aheadN l x) x (by omega) (by omega)) rfl rfl rfl rfl rf22)) ?_
    refine AList.g 63 59 rfl rfl rfl rfl rfl rfl rfl [(62, _)] (fun h => And.intro (.inr ⟨_, rfl, h⟩) (trivial)) (fun h => (OpJ.not_ rfl rfl)) ?_
    refine AList.c 64 rfl rfl rfl (OpJ.or_ rfl rfl rfl ?_) ?_
    · first | (intro h; rw [h]; rfl) | (intro h; simp_all)
    refine AList.nil ?_
    refine AWp.cond _ rfl (fun hc1 => ?_) (fun hc1 => ?_)
    · skip
      exfalso
      rw [ahead_bit, decide_eq_true ho, back_self] at hc1
      simp only [Bool.or_eq_true, Bool.and_eq_true, Bool.and_true, Bool.true_and, Bool.not_eq_true', decide_eq_true_eq, decide_eq_false_iff_not, Bool.not_true, Bool.not_false, Bool.false_eq_true, or_false, false_or, not_true_eq_false, Nat.one_mul] at hc1
      omega
    · skip
      refine AWp.skip ?_
      refine AWp.seq ?_
      refine AWp.region ?_
      refine AList.c 65 rfl rfl rfl (OpJ.move rfl rfl) ?_
      refine AList.c 66 rfl rfl rfl (OpJ.convInt rfl rfl (by rw [un35]; rfl) un3 (i64ok ?_)) ?_
      · omega
      refine AList.c 67 rfl rfl rfl (OpJ.move rfl rfl) ?_
      refine AList.c 68 rfl rfl rfl (OpJ.lenSlice rfl rfl sl22 rfl) ?_
      refine AList.c 69 rfl rfl rfl (OpJ.shlN 1 l.length rfl rfl rfl (by show _ ≤ (64 : Nat); omega) (by show _ ≤ (9223372036854775807 : Int); rw [Nat.one_mul]; omega)) ?_
      rw [Nat.one_mul]
      refine AList.c 70 rfl rfl rfl (OpJ.rem (m := ((sn % 2 ^ l.length : Nat) : Int)) rfl rfl rfl ?_ ?_) ?_
      · omega
      · rfl
      refine AList.c 10 rfl rfl rfl (OpJ.assign rfl rfl) ?_
      refine AList.nil ?_
      refine AWp.seq ?_
      generalize hae : sn % 2 ^ l.length = a at hsm ⊢
      have htx : (blameN l (a &&& aheadN l x) (a ^^^ (a &&& aheadN l x))).testBit x = true := true_x ho
      have hbl : a &&& aheadN l x < 2 ^ l.length := Nat.lt_of_le_of_lt Nat.and_le_left hsm
      have hgl : a ^^^ (a &&& aheadN l x) < 2 ^ l.length := bit_lt fun i hi => bit_of_lt hsm ((xand_bit _ _ i).1 hi).1
      refine AWp.region ?_
      refine AList.c 71 rfl rfl rfl (OpJ.move rfl rfl) ?_
      refine AList.c 72 rfl rfl rfl (OpJ.move rfl rfl) ?_
      refine AList.c 73 rfl rfl rfl (OpJ.andN a (aheadN l x) rfl rfl rfl (by first | (show _ ≤ (9223372036854775807 : Int); omega) | (show _ ≤ (4294967295 : Int); omega)) (by first | decide | (show _ ≤ (9223372036854775807 : Int); omega) | (show _ ≤ (4294967295 : Int); omega))) ?_
      refine AList.c 74 rfl rfl rfl (OpJ.move rfl rfl) ?_
      refine AList.c 75 rfl rfl rfl (OpJ.move rfl rfl) ?_
      refine AList.c 76 rfl rfl rfl (OpJ.andNotN a (aheadN l x) rfl rfl rfl (by first | (show _ ≤ (9223372036854775807 : Int); omega) | (show _ ≤ (4294967295 : Int); omega))) ?_
      refine AList.c 11 rfl rfl rfl (OpJ.assign rfl rfl) ?_
      refine AList.c 12 rfl rfl rfl (OpJ.assign rfl rfl) ?_
      refine AList.nil ?_
      refine AWp.seq ?_
      generalize a &&& aheadN l x = bad at hbl htx hgl ⊢
      generalize a ^^^ bad = good at htx hgl ⊢
      refine AWp.region ?_
      refine AList.c 78 rfl rfl rfl (OpJ.move rfl rfl) ?_
      refine AList.c 79 rfl rfl rfl (OpJ.move rfl rfl) ?_
      refine AList.c 80 rfl rfl rfl (OpJ.move rfl rfl) ?_
      refine AList.c 81 rfl rfl rfl (OpJ.callP (Blame_ok l bad good hb) rfl rfl rfl rfl rf17) ?_
      refine AList.c 77 rfl rfl rfl (OpJ.move rfl rfl) ?_
      refine AList.c 82 rfl rfl rfl (OpJ.extract rfl rfl rfl) ?_
      refine AList.c 83 rfl rfl rfl (OpJ.extract rfl rfl rfl) ?_
      refine AList.c 13 rfl rfl rfl (OpJ.assign rfl rfl) ?_
      refine AList.c 14 rfl rfl rfl (OpJ.assign rfl rfl) ?_
      refine AList.nil ?_
      refine AWp.seq ?_
      refine AWp.region ?_
      refine AList.c 85 rfl rfl rfl (OpJ.move rfl rfl) ?_
      refine AList.c 86 rfl rfl rfl (OpJ.move rfl rfl) ?_
      refine AList.c 87 rfl rfl rfl (OpJ.move rfl rfl) ?_
      refine AList.c 88 rfl rfl rfl (OpJ.callP (Recall_ok l bad good hb) rfl rfl rfl rfl rf19) ?_
      refine AList.c 84 rfl rfl rfl (OpJ.move rfl rfl) ?_
      refine AList.c 89 rfl rfl rfl (OpJ.extract rfl rfl rfl) ?_
      refine AList.c 90 rfl rfl rfl (OpJ.extract rfl rfl rfl) ?_
      refine AList.c 91 rfl rfl rfl (OpJ.extract rfl rfl rfl) ?_
      refine AList.c 16 rfl rfl rfl (OpJ.allocOwn rfl zr32 rfl) ?_
      refine AList.c 15 rfl rfl rfl (OpJ.assign rfl rfl) ?_
      refine AList.c0 rfl rfl (OpJ.store rfl rfl rfl rfl rfl ty32 rfl rfl) ?_
      refine AList.c 17 rfl rfl rfl (OpJ.assign rfl rfl) ?_
      refine AList.nil ?_
      refine AWp.seq ?_
      refine AWp.seq ?_
      refine AWp.norm [0] [(0, _), (1, _), (2, _), (7, _), (8, _), (10, _), (11, _), (12, _), (13, _), (14, _), (15, _), (16, _), (17, _)] [_] rfl (by repeat (first | exact Sub.nil | refine Sub.cons rfl ?_)) rfl ?_
      refine AWp.region ?_
      refine AList.c 92 rfl rfl rfl (OpJ.move rfl rfl) ?_
      refine AList.c 93 rfl rfl rfl (OpJ.eql rfl rfl rfl) ?_
      refine AList.nil ?_
      refine AWp.cond _ rfl (fun hc2 => ?_) (fun hc2 => ?_)
      · skip
        have hz : bad = 0 := by have h := of_decide_eq_true hc2; omega
        have hE4 : blE l (bad : Int) (good : Int) = 4 := by rw [blE_of hC hbl hgl, if_pos hz]
        refine AWp.seq ?_
        refine AWp.region ?_
        refine AList.c 94 rfl rfl rfl (OpJ.move rfl rfl) ?_
        refine AList.c 95 rfl rfl rfl (OpJ.eql rfl rfl rfl) ?_
        refine AList.c 96 rfl rfl rfl (OpJ.move rfl rfl) ?_
        refine AList.g 97 96 rfl rfl rfl rfl rfl rfl rfl [(14, _)] (fun h => And.intro (.inl rfl) (trivial)) (fun h => (OpJ.move rfl rfl)) ?_
        refine AList.g 98 96 rfl rfl rfl rfl rfl rfl rfl [(97, _)] (fun h => And.intro (.inr ⟨_, rfl, h⟩) (trivial)) (fun h => (OpJ.eql rfl rfl rfl)) ?_
        refine AList.c 99 rfl rfl rfl (OpJ.and_ rfl rfl rfl ?_) ?_
        · first | (intro h; rw [h]; rfl) | (intro h; simp_all)
        refine AList.c 100 rfl rfl rfl (OpJ.move rfl rfl) ?_
        refine AList.g 101 100 rfl rfl rfl rfl rfl rfl rfl [(15, _)] (fun h => And.intro (.inl rfl) (trivial)) (fun h => (OpJ.move rfl rfl)) ?_
        refine AList.g 102 100 rfl rfl rfl rfl rfl rfl rfl [(101, _)] (fun h => And.intro (.inr ⟨_, rfl, h⟩) (trivial)) (fun h => (OpJ.eql rfl rfl rfl)) ?_
        refine AList.c 103 rfl rfl rfl (OpJ.and_ rfl rfl rfl ?_) ?_
        · first | (intro h; rw [h]; rfl) | (intro h; simp_all)
        refine AList.c 104 rfl rfl rfl (OpJ.move rfl rfl) ?_
        refine AList.g 105 104 rfl rfl rfl rfl rfl rfl rfl [(16, _)] (fun h => And.intro (.inl rfl) (trivial)) (fun h => (OpJ.load (v := .p (.agg [.int .i64 (recS l bad good).1, .int .i64 (recS l bad good).2])) rfl rfl ty32 rfl)) ?_
        refine AList.g 106 104 rfl rfl rfl rfl rfl rfl rfl [] (fun h => trivial) (fun h => (OpJ.build rfl bd32 rfl rfl)) ?_
        refine AList.g 107 104 rfl rfl rfl rfl rfl rfl rfl [(105, _), (106, _)] (fun h => And.intro (.inr ⟨_, rfl, h⟩) (And.intro (.inr ⟨_, rfl, h⟩) (trivial))) (fun h => (OpJ.eqAgg (d := 8) rfl (.inl rfl) rfl rfl (by decide) eq32 ty32 rfl eg32 rfl)) ?_
        refine AList.c 108 rfl rfl rfl (OpJ.and_ rfl rfl rfl ?_) ?_
        · first | (intro h; rw [h]; rfl) | (intro h; simp_all)
        refine AList.c 109 rfl rfl rfl (OpJ.move rfl rfl) ?_
        refine AList.g 110 109 rfl rfl rfl rfl rfl rfl rfl [(17, _)] (fun h => And.intro (.inl rfl) (trivial)) (fun h => (OpJ.move rfl rfl)) ?_
        refine AList.g 111 109 rfl rfl rfl rfl rfl rfl rfl [(14, _)] (fun h => And.intro (.inl rfl) (trivial)) (fun h => (OpJ.move rfl rfl)) ?_
        refine AList.g 112 109 rfl rfl rfl rfl rfl rfl rfl [(110, _), (111, _)] (fun h => And.intro (.inr ⟨_, rfl, h⟩) (And.intro (.inr ⟨_, rfl, h⟩) (trivial))) (fun h => (OpJ.eql rfl rfl rfl)) ?_
        refine AList.c 113 rfl rfl rfl (OpJ.and_ rfl rfl rfl ?_) ?_
        · first | (intro h; rw [h]; rfl) | (intro h; simp_all)
        refine AList.c 114 rfl rfl rfl (OpJ.move rfl rfl) ?_
        refine AList.g 115 114 rfl rfl rfl rfl rfl rfl rfl [] (fun h => trivial) (fun h => (OpJ.callP (awake_ok) rfl rfl rfl rfl rf10)) ?_
        refine AList.c 116 rfl rfl rfl (OpJ.and_ rfl rfl rfl ?_) ?_
        · first | (intro h; rw [h]; rfl) | (intro h; simp_all)
        refine AList.c 6 rfl rfl rfl (OpJ.assign rfl rfl) ?_
        refine AList.nil ?_
        refine AWp.ret ?_
        refine Fin.oneE rfl rfl ?_
        simp [blR, recN, recS, hE4]
      · skip
        have hz : ¬ bad = 0 := by have h := of_decide_eq_false hc2; omega
        have hE0 : blE l (bad : Int) (good : Int) = 0 := by rw [blE_of hC hbl hgl, if_neg hz, if_neg (bit_ne htx)]
        obtain ⟨_, _, _, _, hR, _, hcl⟩ := blR_of hE0
        have hR2 : blR l (bad : Int) (good : Int) = blameN l bad good := hR
        have hrx : (blR l (bad : Int) (good : Int)).testBit x = true := by rw [hR2]; exact htx
        have hN : recN l (bad : Int) (good : Int) = callN l (blR l (bad : Int) (good : Int)) := by unfold recN; rw [if_pos hE0]
        have hS : recS l (bad : Int) (good : Int) = spanN l (blR l (bad : Int) (good : Int)) := by unfold recS; rw [if_pos hE0]
        have hcal := call_lt h24 hcl
        refine AWp.skip ?_
        refine AWp.seq ?_
        refine AWp.seq ?_
        refine AWp.region ?_
        refine AList.c 117 rfl rfl rfl (OpJ.move rfl rfl) ?_
        refine AList.c 118 rfl rfl rfl (OpJ.neq rfl rfl rfl) ?_
        refine AList.c 119 rfl rfl rfl (OpJ.move rfl rfl) ?_
        refine AList.g 120 119 rfl rfl rfl rfl rfl rfl rfl [(17, _)] (fun h => And.intro (.inl rfl) (trivial)) (fun h => (OpJ.move rfl rfl)) ?_
        refine AList.g 121 119 rfl rfl rfl rfl rfl rfl rfl [(120, _)] (fun h => And.intro (.inr ⟨_, rfl, h⟩) (trivial)) (fun h => (OpJ.neq rfl rfl rfl)) ?_
        refine AList.c 122 rfl rfl rfl (OpJ.or_ rfl rfl rfl ?_) ?_
        · first | (intro h; rw [h]; rfl) | (intro h; simp_all)
        refine AList.c 123 rfl rfl rfl (OpJ.move rfl rfl) ?_
        refine AList.g 124 123 rfl rfl rfl rfl rfl rfl rfl [(13, _)] (fun h => And.intro (.inl rfl) (trivial)) (fun h => (OpJ.move rfl rfl)) ?_
        refine AList.g 125 123 rfl rfl rfl rfl rfl rfl rfl [(124, _)] (fun h => And.intro (.inr ⟨_, rfl, h⟩) (trivial)) (fun h => (OpJ.lss rfl rfl rfl)) ?_
        refine AList.c 126 rfl rfl rfl (OpJ.or_ rfl rfl rfl ?_) ?_
        · first | (intro h; rw [h]; rfl) | (intro h; simp_all)
        refine AList.c 127 rfl rfl rfl (OpJ.move rfl rfl) ?_
        refine AList.g 128 127 rfl rfl rfl rfl rfl rfl rfl [(13, _)] (fun h => And.intro (.inl rfl) (trivial)) (fun h => (OpJ.move rfl rfl)) ?_
        refine AList.g 129 127 rfl rfl rfl rfl rfl rfl rfl [(0, _)] (fun h => And.intro (.inl rfl) (trivial)) (fun h => (OpJ.move rfl rfl)) ?_
        refine AList.g 130 127 rfl rfl rfl rfl rfl rfl rfl [(129, _)] (fun h => And.intro (.inr ⟨_, rfl, h⟩) (trivial)) (fun h => (OpJ.lenSlice rfl rfl sl22 rfl)) ?_
        refine AList.g 131 127 rfl rfl rfl rfl rfl rfl rfl [(130, _)] (fun h => And.intro (.inr ⟨_, rfl, h⟩) (trivial)) (fun h => (OpJ.shlN 1 l.length rfl rfl rfl (by show _ ≤ (64 : Nat); omega) (by show _ ≤ (9223372036854775807 : Int); rw [Nat.one_mul]; omega))) ?_
        refine AList.g 132 127 rfl rfl rfl rfl rfl rfl rfl [(128, _), (131, _)] (fun h => And.intro (.inr ⟨_, rfl, h⟩) (And.intro (.inr ⟨_, rfl, h⟩) (trivial))) (fun h => (OpJ.geq rfl rfl rfl)) ?_
        refine AList.c 133 rfl rfl rfl (OpJ.or_ rfl rfl rfl ?_) ?_
        · first | (intro h; rw [h]; rfl) | (intro h; simp_all)
        refine AList.c 134 rfl rfl rfl (OpJ.move rfl rfl) ?_
        refine AList.g 135 134 rfl rfl rfl rfl rfl rfl rfl [(13, _)] (fun h => And.intro (.inl rfl) (trivial)) (fun h => (OpJ.move rfl rfl)) ?_
        refine AList.g 136 134 rfl rfl rfl rfl rfl rfl rfl [(7, _)] (fun h => And.intro (.inl rfl) (trivial)) (fun h => (OpJ.move rfl rfl)) ?_
        refine AList.g 137 134 rfl rfl rfl rfl rfl rfl rfl [(135, _), (136, _)] (fun h => And.intro (.inr ⟨_, rfl, h⟩) (And.intro (.inr ⟨_, rfl, h⟩) (trivial))) (fun h => (OpJ.callP (rhas_ok (blR l bad good) x (by omega) (by omega)) rfl rfl rfl rfl rf22)) ?_
        refine AList.g 138 134 rfl rfl rfl rfl rfl rfl rfl [(137, _)] (fun h => And.intro (.inr ⟨_, rfl, h⟩) (trivial)) (fun h => (OpJ.not_ rfl rfl)) ?_
        refine AList.c 139 rfl rfl rfl (OpJ.or_ rfl rfl rfl ?_) ?_
        · first | (intro h; rw [h]; rfl) | (intro h; simp_all)
        refine AList.nil ?_
        refine AWp.cond _ rfl (fun hc3 => ?_) (fun hc3 => ?_)
        · skip
          exfalso
          rw [hE0, hrx] at hc3
          simp only [Bool.or_eq_true, Bool.and_eq_true, Bool.and_true, Bool.true_and, Bool.not_eq_true', decide_eq_true_eq, decide_eq_false_iff_not, Bool.not_true, Bool.not_false, Bool.false_eq_true, or_false, false_or, not_true_eq_false, Nat.one_mul] at hc3
          omega
        · skip
          refine AWp.skip ?_
          refine AWp.seq ?_
          refine AWp.region ?_
          refine AList.c 18 rfl rfl rfl (OpJ.assign rfl rfl) ?_
          refine AList.c 19 rfl rfl rfl (OpJ.assign rfl rfl) ?_
          refine AList.nil ?_
          refine AWp.seq ?_
          refine AWp.seq ?_
          refine AWp.region ?_
          refine AList.c 20 rfl rfl rfl (OpJ.assign rfl rfl) ?_
          refine AList.nil ?_
          refine AWp.block ?_
          refine AWp.loopKL [0, 6, 8, 15, 16, 168, 169, 170, 171, 172, 173, 174, 175, 176, 177, 178, 179, 180, 181, 182, 183, 184, 185, 186] (fun g => [(20, .p (.int .i64 ((g : Nat) : Int))), (18, .p (.int .i64 (sumK l (bitsN (ownN l x) g)))), (19, .p (.int .i64 ((lowN (ownN l x) g : Nat) : Int)))]) (fun g => g ≤ l.length) (fun g => l.length - g) 0 (Nat.zero_le _) (Sub.cons rfl (Sub.cons rfl (Sub.cons rfl (Sub.nil)))) (fun i hg => ?_)
          refine AWp.seq ?_
          refine AWp.seq ?_
          refine AWp.region ?_
          refine AList.c 140 rfl rfl rfl (OpJ.move rfl rfl) ?_
          refine AList.c 141 rfl rfl rfl (OpJ.move rfl rfl) ?_
          refine AList.c 142 rfl rfl rfl (OpJ.lenSlice rfl rfl sl22 rfl) ?_
          refine AList.c 143 rfl rfl rfl (OpJ.lss rfl rfl rfl) ?_
          refine AList.nil ?_
          refine AWp.cond _ rfl (fun hc4 => ?_) (fun hc4 => ?_)
          · skip
            have hk0 : i < l.length := by have h := of_decide_eq_true hc4; omega
            have hB1 := sumK_bits_B hC x (show i ≤ l.length by omega)
            have hB2 := (hC i hk0).2.2
            have hlo := lowN_lt (ownN l x) i
            have hpi := Nat.pow_le_pow_right (show 0 < 2 by omega) (show i ≤ 24 by omega)
            have hpj := Nat.pow_lt_pow_right (show 1 < 2 by omega) (show i < 25 by omega)
            have hor : lowN (ownN l x) i ||| 1 * 2 ^ i < 2 ^ 25 := Nat.or_lt_two_pow (by omega) (by rw [Nat.one_mul]; exact hpj)
            refine AWp.skip ?_
            refine AWp.seq ?_
            refine AWp.block ?_
            refine AWp.seq ?_
            refine AWp.region ?_
            refine AList.c 146 rfl rfl rfl (OpJ.move rfl rfl) ?_
            refine AList.c 147 rfl rfl rfl (OpJ.move rfl rfl) ?_
            refine AList.c 148 rfl rfl rfl (OpJ.callP (rhas_ok (aheadN l x) i (by omega) (by omega)) rfl rfl rfl rfl rf22) ?_
            refine AList.c 149 rfl rfl rfl (OpJ.move rfl rfl) ?_
            refine AList.g 150 149 rfl rfl rfl rfl rfl rfl rfl [(0, _)] (fun h => And.intro (.inl rfl) (trivial)) (fun h => (OpJ.move rfl rfl)) ?_
            refine AList.g 151 149 rfl rfl rfl rfl rfl rfl rfl [(20, _)] (fun h => And.intro (.inl rfl) (trivial)) (fun h => (OpJ.move rfl rfl)) ?_
            refine AList.g 152 149 rfl rfl rfl rfl rfl rfl rfl [(150, _), (151, _)] (fun h => And.intro (.inr ⟨_, rfl, h⟩) (And.intro (.inr ⟨_, rfl, h⟩) (trivial))) (fun h => (OpJ.indexG (g := bt l) bt_get rfl rfl rfl sl22 el22 rfl (fun _ => rfl) (by decide) hk0)) ?_
            refine AList.g 153 149 rfl rfl rfl rfl rfl rfl rfl [(152, _)] (fun h => And.intro (.inr ⟨_, rfl, h⟩) (trivial)) (fun h => (OpJ.fieldAddr rfl rfl fd39_1 rfl)) ?_
            refine AList.g 154 149 rfl rfl rfl rfl rfl rfl rfl [(153, _)] (fun h => And.intro (.inr ⟨_, rfl, h⟩) (trivial)) (fun h => (OpJ.load (v := .p (.int .i64 (bt l i).s)) rfl rfl ty3 rfl)) ?_
            refine AList.g 155 149 rfl rfl rfl rfl rfl rfl rfl [(154, _)] (fun h => And.intro (.inr ⟨_, rfl, h⟩) (trivial)) (fun h => (OpJ.gtr rfl rfl rfl)) ?_
            refine AList.c 156 rfl rfl rfl (OpJ.and_ rfl rfl rfl ?_) ?_
            · first | (intro h; rw [h]; rfl) | (intro h; simp_all)
            refine AList.nil ?_
            refine AWp.cond _ rfl (fun hc5 => ?_) (fun hc5 => ?_)
            · skip
              have hob : (ownN l x).testBit i = true := by rw [← own_cond hk0]; exact hc5
              have hb1 : bitsN (ownN l x) (i + 1) = bitsN (ownN l x) i ++ [i] := by rw [bitsN_succ, if_pos hob]
              have hst1 : sumK l (bitsN (ownN l x) (i + 1)) = sumK l (bitsN (ownN l x) i) + (bt l i).s := by rw [hb1, sumK_snoc]
              have hst2 : lowN (ownN l x) (i + 1) = lowN (ownN l x) i ||| 1 * 2 ^ i := by rw [lowN_succ, if_pos hob, Nat.one_mul]
              refine AWp.seq ?_
              refine AWp.region ?_
              refine AList.c 157 rfl rfl rfl (OpJ.move rfl rfl) ?_
              refine AList.c 158 rfl rfl rfl (OpJ.move rfl rfl) ?_
              refine AList.c 159 rfl rfl rfl (OpJ.move rfl rfl) ?_
              refine AList.c 160 rfl rfl rfl (OpJ.indexG (g := bt l) bt_get rfl rfl rfl sl22 el22 rfl (fun _ => rfl) (by decide) hk0) ?_
              refine AList.c 161 rfl rfl rfl (OpJ.fieldAddr rfl rfl fd39_1 rfl) ?_
              refine AList.c 162 rfl rfl rfl (OpJ.load (v := .p (.int .i64 (bt l i).s)) rfl rfl ty3 rfl) ?_
              refine AList.c 163 rfl rfl rfl (OpJ.add rfl rfl rfl (i64ok ?_)) ?_
              · omega
              refine AList.c 18 rfl rfl rfl (OpJ.assign rfl rfl) ?_
              refine AList.nil ?_
              refine AWp.region ?_
              refine AList.c 164 rfl rfl rfl (OpJ.move rfl rfl) ?_
              refine AList.c 165 rfl rfl rfl (OpJ.move rfl rfl) ?_
              refine AList.c 166 rfl rfl rfl (OpJ.shlN 1 i rfl rfl rfl (by show _ ≤ (64 : Nat); omega) (by show _ ≤ (9223372036854775807 : Int); rw [Nat.one_mul]; omega)) ?_
              refine AList.c 167 rfl rfl rfl (OpJ.orN (lowN (ownN l x) i) (1 * 2 ^ i) rfl rfl rfl (by show _ ≤ (9223372036854775807 : Int); omega) (by show _ ≤ (9223372036854775807 : Int); rw [Nat.one_mul]; omega) (by show _ ≤ (9223372036854775807 : Int); omega)) ?_
              refine AList.c 19 rfl rfl rfl (OpJ.assign rfl rfl) ?_
              refine AList.nil ?_
              refine AWp.region ?_
              refine AList.c 144 rfl rfl rfl (OpJ.move rfl rfl) ?_
              refine AList.c 145 rfl rfl rfl (OpJ.add rfl rfl rfl (i64ok ?_)) ?_
              · omega
              refine AList.c 20 rfl rfl rfl (OpJ.assign rfl rfl) ?_
              refine AList.nil ?_
              refine ⟨i + 1, ?_, ?_, ?_⟩
              · omega
              · omega
              refine To.done [0] rfl (Sub.cons rfl (Sub.cons (by rw [hst1]; rfl) (Sub.cons (by rw [hst2]; rfl) (by repeat (first | exact Sub.nil | refine Sub.cons rfl ?_))))) rfl
            · skip
              have hob : (ownN l x).testBit i = false := by rw [← own_cond hk0]; exact hc5
              have hst1 : sumK l (bitsN (ownN l x) (i + 1)) = sumK l (bitsN (ownN l x) i) := by rw [bitsN_succ, hob]; rfl
              have hst2 : lowN (ownN l x) (i + 1) = lowN (ownN l x) i := by rw [lowN_succ, hob]; rfl
              refine AWp.skip ?_
              refine AWp.region ?_
              refine AList.c 144 rfl rfl rfl (OpJ.move rfl rfl) ?_
              refine AList.c 145 rfl rfl rfl (OpJ.add rfl rfl rfl (i64ok ?_)) ?_
              · omega
              refine AList.c 20 rfl rfl rfl (OpJ.assign rfl rfl) ?_
              refine AList.nil ?_
              refine ⟨i + 1, ?_, ?_, ?_⟩
              · omega
              · omega
              refine To.done [0] rfl (Sub.cons rfl (Sub.cons (by rw [hst1]; rfl) (Sub.cons (by rw [hst2]; rfl) (by repeat (first | exact Sub.nil | refine Sub.cons rfl ?_))))) rfl
          · skip
            obtain rfl : i = l.length := by have h := of_decide_eq_false hc4; omega
            have hfin := call_of h24 hcl hrx
            rw [cnt_all h24, lowN_all (own_lt l x)]
            have howl := own_lt l x
            refine AWp.exit ?_
            refine AWp.seq ?_
            refine AWp.region ?_
            refine AList.c 168 rfl rfl rfl (OpJ.move rfl rfl) ?_
            refine AList.c 169 rfl rfl rfl (OpJ.move rfl rfl) ?_
            refine AList.c 170 rfl rfl rfl (OpJ.andNotN (ownN l x) (recN l bad good) rfl rfl rfl (by first | (show _ ≤ (9223372036854775807 : Int); omega) | (show _ ≤ (4294967295 : Int); omega))) ?_
            refine AList.c 171 rfl rfl rfl (OpJ.eql rfl rfl rfl) ?_
            refine AList.c 172 rfl rfl rfl (OpJ.move rfl rfl) ?_
            refine AList.g 173 172 rfl rfl rfl rfl rfl rfl rfl [(18, _)] (fun h => And.intro (.inl rfl) (trivial)) (fun h => (OpJ.move rfl rfl)) ?_
            refine AList.g 174 172 rfl rfl rfl rfl rfl rfl rfl [(16, _)] (fun h => And.intro (.inl rfl) (trivial)) (fun h => (OpJ.fieldAddr rfl rfl fd32_0 rfl)) ?_
            refine AList.g 175 172 rfl rfl rfl rfl rfl rfl rfl [(174, _)] (fun h => And.intro (.inr ⟨_, rfl, h⟩) (trivial)) (fun h => (OpJ.load (v := .p (.int .i64 (recS l bad good).1)) rfl rfl ty3 rfl)) ?_
            refine AList.g 176 172 rfl rfl rfl rfl rfl rfl rfl [(173, _), (175, _)] (fun h => And.intro (.inr ⟨_, rfl, h⟩) (And.intro (.inr ⟨_, rfl, h⟩) (trivial))) (fun h => (OpJ.geq rfl rfl rfl)) ?_
            refine AList.c 177 rfl rfl rfl (OpJ.and_ rfl rfl rfl ?_) ?_
            · first | (intro h; rw [h]; rfl) | (intro h; simp_all)
            refine AList.c 178 rfl rfl rfl (OpJ.move rfl rfl) ?_
            refine AList.g 179 178 rfl rfl rfl rfl rfl rfl rfl [(18, _)] (fun h => And.intro (.inl rfl) (trivial)) (fun h => (OpJ.move rfl rfl)) ?_
            refine AList.g 180 178 rfl rfl rfl rfl rfl rfl rfl [(16, _)] (fun h => And.intro (.inl rfl) (trivial)) (fun h => (OpJ.fieldAddr rfl rfl fd32_1 rfl)) ?_
            refine AList.g 181 178 rfl rfl rfl rfl rfl rfl rfl [(180, _)] (fun h => And.intro (.inr ⟨_, rfl, h⟩) (trivial)) (fun h => (OpJ.load (v := .p (.int .i64 (recS l bad good).2)) rfl rfl ty3 rfl)) ?_
            refine AList.g 182 178 rfl rfl rfl rfl rfl rfl rfl [(179, _), (181, _)] (fun h => And.intro (.inr ⟨_, rfl, h⟩) (And.intro (.inr ⟨_, rfl, h⟩) (trivial))) (fun h => (OpJ.leq rfl rfl rfl)) ?_
            refine AList.c 183 rfl rfl rfl (OpJ.and_ rfl rfl rfl ?_) ?_
            · first | (intro h; rw [h]; rfl) | (intro h; simp_all)
            refine AList.c 184 rfl rfl rfl (OpJ.move rfl rfl) ?_
            refine AList.g 185 184 rfl rfl rfl rfl rfl rfl rfl [] (fun h => trivial) (fun h => (OpJ.callP (awake_ok) rfl rfl rfl rfl rf10)) ?_
            refine AList.c 186 rfl rfl rfl (OpJ.and_ rfl rfl rfl ?_) ?_
            · first | (intro h; rw [h]; rfl) | (intro h; simp_all)
            refine AList.c 6 rfl rfl rfl (OpJ.assign rfl rfl) ?_
            refine AList.nil ?_
            refine AWp.ret ?_
            refine Fin.oneE rfl rfl ?_
            rw [hN, hS]
            simp [hfin.1, hfin.2.1, hfin.2.2]
theorem recallTrue_law {x0 x1 x2 : List PV} (h0 : TyL [.sl [.leaf (.int .i64), .leaf (.int .i64)]] x0) (h1 : TyL [.leaf (.int .u8)] x1) (h2 : TyL [.leaf (.int .u32)] x2) : Pure Tryd.prog 5 [argP false x0, argP false x1, argP false x2] (.bool true) := by
  obtain ⟨l, rfl, hl⟩ := bats_of h0
  obtain ⟨w, rfl, hw⟩ := u8_of h1
  obtain ⟨s, rfl, hs⟩ := u32_of h2
  exact recallTrue_main l w s hl hw hs
end Go.Proofs.YtlalikkkobpfgaaDoor
