/-
  The law TopGood.
-/
import Derived.Test.YtofenmailjdehaaDoorXoFacts
import Derived.Test.YtofenmailjdehaaDoorXo1
import Derived.Test.YtofenmailjdehaaDoorXr7
set_option linter.unusedVariables false
set_option maxRecDepth 100000
set_option maxHeartbeats 4000000
set_option linter.unusedSimpArgs false
namespace Go.Proofs.YtofenmailjdehaaDoor
open Go.AF
def u16c (n : Nat) : List PV := [.int .u16 (n : Int)]
def u16sV (l : List Nat) : PV := .is (l.flatMap u16c) l.length
def sxG (al lo hi : Int) : Sup := ⟨1, al - hi, al - lo, 0, 0⟩
def oxG (N : Nat) : Ord := ⟨0, (N : Int), 0, 0⟩
theorem sx_ok {al lo hi : Int} (h1 : 0 ≤ lo) (h2 : lo ≤ hi) (h3 : hi ≤ al) (h4 : al ≤ 64000) : supB (sxG al lo hi) = false := by
  unfold supB spB inB sxG
  simp
  omega
theorem ox_ok {N : Nat} (h : N ≤ 64001) : ordB (oxG N) = false := by
  unfold ordB inB oxG
  simp
  omega
theorem most_sx {al lo hi : Int} {N : Nat} : (mostF (oxG N).n (sxG al lo hi).lo 2).2 = if (N : Int) - (al - hi) > 0 then (N : Int) - (al - hi) else 0 := by
  unfold mostF oxG sxG
  dsimp only
  by_cases h : (N : Int) - (al - hi) > 0
  · rw [if_pos ⟨Nat.le_refl 2, h⟩, if_pos h]
  · rw [if_neg (fun e => h e.2), if_neg h]
theorem topGood_main (c : Crt) (w1 w2 : Nat) (by_ : List Nat) (ak : Nat) (hb : c.rows.length ≤ bigN) (hbb : by_.length ≤ bigN) (hw1 : w1 ≤ 255) (hw2 : w2 ≤ 255) (hby : ∀ n ∈ by_, n ≤ 65535) (hak : ak ≤ 65535) : Pure Tryd.prog 4 [crV c, .int .u8 (w1 : Int), .int .u8 (w2 : Int), u16sV by_, .int .u16 (ak : Int)] (.bool true) := by
  have hbb2 := hbb
  unfold bigN at hbb2
  refine Pure.start (N := 257) Tryd.func4 rfl rfl (Nat.le_of_ble_eq_true rfl) ?_
  refine AWp.seq ?_
  refine AWp.region ?_
  refine AList.c 5 rfl rfl rfl (OpJ.boxImm rfl rfl rfl) ?_
  refine AList.c 10 rfl rfl rfl (OpJ.assign rfl rfl) ?_
  refine AList.nil ?_
  refine AWp.seq ?_
  refine AWp.seq ?_
  refine AWp.region ?_
  refine AList.c 31 rfl rfl rfl (OpJ.move rfl rfl) ?_
  refine AList.c 32 rfl rfl rfl (OpJ.lenSlice rfl rfl sl47 rfl) ?_
  refine AList.c 33 rfl rfl rfl (OpJ.gtr rfl rfl rfl) ?_
  refine AList.c 34 rfl rfl rfl (OpJ.move rfl rfl) ?_
  refine AList.g 35 34 rfl rfl rfl rfl rfl rfl rfl [(5, _)] (fun h => And.intro (.inl rfl) (trivial)) (fun h => (OpJ.load (v := .p (crV c)) rfl rfl ty24 rfl)) ?_
  refine AList.g 36 34 rfl rfl rfl rfl rfl rfl rfl [(35, _)] (fun h => And.intro (.inr ⟨_, rfl, h⟩) (trivial)) (fun h => (OpJ.callP (rcrate_ok c hb) rfl rfl rfl rfl rf5)) ?_
  refine AList.g 37 34 rfl rfl rfl rfl rfl rfl rfl [(36, _)] (fun h => And.intro (.inr ⟨_, rfl, h⟩) (trivial)) (fun h => (OpJ.not_ rfl rfl)) ?_
  refine AList.c 38 rfl rfl rfl (OpJ.or_ rfl rfl rfl ?_) ?_
  · first | (intro h; rw [h]; rfl) | (intro h; simp_all)
  refine AList.nil ?_
  refine AWp.cond _ rfl (fun hc0 => ?_) (fun hc0 => ?_)
  · skip
    refine AWp.seq ?_
    refine AWp.region ?_
    refine AList.c 39 rfl rfl rfl (OpJ.callP (awake06_ok) rfl rfl rfl rfl rf12) ?_
    refine AList.c 10 rfl rfl rfl (OpJ.assign rfl rfl) ?_
    refine AList.nil ?_
    refine AWp.ret ?_
    exact Fin.oneE rfl rfl rfl
  · skip
    obtain ⟨hl40, hcr⟩ : by_.length ≤ 40 ∧ crB c = true := by
      have h2 := hc0
      simp only [Bool.or_eq_false_iff, decide_eq_false_iff_not, Bool.not_eq_false'] at h2
      exact ⟨by omega, h2.2⟩
    obtain ⟨⟨hR1, hR⟩, ⟨hC1, hC⟩, hrn, ⟨hk1, hk2⟩, hd1, hd2⟩ := crB_of hcr
    obtain ⟨C, hCn⟩ : ∃ n : Nat, c.cols = n := ⟨c.cols.toNat, by omega⟩
    have hCt : c.cols.toNat = C := by omega
    have hC8 : C ≤ 8 := by omega
    have hC0 : 0 < C := by omega
    refine AWp.skip ?_
    refine AWp.seq ?_
    refine AWp.region ?_
    refine AList.c 11 rfl rfl rfl (OpJ.allocOwn rfl zr50 rfl) ?_
    refine AList.nil ?_
    refine AWp.seq ?_
    refine AWp.seq ?_
    refine AWp.region ?_
    refine AList.c 40 rfl rfl rfl (OpJ.fieldAddr rfl rfl fd24_0 rfl) ?_
    refine AList.c 41 rfl rfl rfl (OpJ.load (v := .p (intsV c.rows)) rfl rfl ty22 rfl) ?_
    refine AList.c 42 rfl rfl rfl (OpJ.lenSlice rfl rfl sl22 rfl) ?_
    refine AList.c 43 rfl rfl rfl (OpJ.move rfl rfl) ?_
    refine AList.nil ?_
    refine AWp.block ?_
    refine AWp.loopHL [1, 2, 3, 4, 5, 10, 11, 13, 14, 16, 17, 19, 20, 21, 22, 23, 24, 25, 26, 28, 29, 30, 42, 66, 67, 68, 69, 70, 71, 72, 73, 74, 75, 76, 77, 78, 79, 80, 81, 82, 83, 84, 85, 86, 87, 88, 89, 90, 91, 92, 93, 94, 95, 96, 97, 98, 99, 100, 101, 102, 103, 104, 105, 106, 107, 108, 109, 110, 111, 112, 113, 114, 115, 116, 117, 118, 119, 120, 121, 122, 123, 124, 125, 126, 127, 128, 129, 130, 131, 132, 133, 134, 135, 136, 137, 138, 139, 140, 141, 142, 143, 144, 145, 146, 147, 148, 149, 150, 151, 152, 153, 154, 155, 156, 157, 158, 159, 160, 161, 162, 163, 164, 165, 166, 167, 168, 169, 170, 171, 172, 173, 174, 175, 176, 177, 178, 179, 180, 181, 182, 183, 184, 185, 186, 187, 188, 189, 190, 191, 192, 193, 194, 195, 196, 197, 198, 199, 200, 201, 202, 203, 204, 205, 206, 207, 208, 209, 210, 211, 212, 213, 214, 215, 216, 217, 218, 219, 220, 221, 222, 223, 224, 225, 226, 227, 228, 229, 230, 231, 232, 233, 234, 235, 236, 237, 238, 239, 240, 241, 242, 243, 244, 245, 246, 247, 248, 249, 250, 251, 252, 253, 254, 255, 256] (fun g => [(43, .p (.int .i64 ((g : Nat) : Int)))]) (fun g => [.cells [.p (.int .i64 (((pkF w1 c.clamps g) : Nat) : Int)), .p (.int .i64 ((0 : Nat) : Int))] 50]) (fun g => g ≤ c.rows.length) (fun g => c.rows.length - g) 0 (Nat.zero_le _) (To.sub (Sub.chk (Sub.cons rfl (Sub.nil)))) (fun i hg => ?_)
    refine AWp.seq ?_
    refine AWp.region ?_
    refine AList.c 44 rfl rfl rfl (OpJ.lss rfl rfl rfl) ?_
    refine AList.nil ?_
    refine AWp.seq ?_
    refine AWp.cond _ rfl (fun hc1 => ?_) (fun hc1 => ?_)
    · skip
      have hk0 : i < c.rows.length := by have h := of_decide_eq_true hc1; omega
      have hpl := pkF_lt w1 c.clamps i
      have hpi := Nat.pow_le_pow_right (show 0 < 2 by omega) (show i + 1 ≤ 24 by omega)
      have hpj := Nat.pow_le_pow_right (show 0 < 2 by omega) (show i ≤ 8 by omega)
      have hd := Nat.div_le_self w1 (2 ^ i)
      have hpk := Nat.pow_lt_pow_right (show 1 < 2 by omega) (show i < i + 1 by omega)
      have hor : pkF w1 c.clamps i ||| 1 * 2 ^ i < 2 ^ (i + 1) := Nat.or_lt_two_pow (by omega) (by rw [Nat.one_mul]; exact hpk)
      refine AWp.skip ?_
      refine AWp.seq ?_
      refine AWp.block ?_
      refine AWp.seq ?_
      refine AWp.region ?_
      refine AList.c 45 rfl rfl rfl (OpJ.move rfl rfl) ?_
      refine AList.c 12 rfl rfl rfl (OpJ.assign rfl rfl) ?_
      refine AList.nil ?_
      refine AWp.seq ?_
      refine AWp.regionDraw 13 mixed (by kernel_rfl) (by decide) ?_
      refine AQuiet.cons 46 rfl rfl rfl (OpJ.move rfl rfl) ?_
      refine AQuiet.cons 47 rfl rfl rfl (OpJ.move rfl rfl) ?_
      refine AQuiet.cons 48 rfl rfl rfl (OpJ.shrN w1 i rfl rfl rfl (by first | decide | (show _ ≤ (9223372036854775807 : Int); omega) | (show _ ≤ (4294967295 : Int); omega) | (show _ ≤ (18446744073709551615 : Int); omega) | (show _ ≤ (255 : Int); omega) | (show _ ≤ (65535 : Int); omega))) ?_
      refine AQuiet.cons 49 rfl rfl rfl (OpJ.andN (w1 / 2 ^ i) 1 rfl rfl rfl (by first | (show _ ≤ (9223372036854775807 : Int); omega) | (show _ ≤ (4294967295 : Int); omega) | (show _ ≤ (18446744073709551615 : Int); omega) | (show _ ≤ (255 : Int); omega) | (show _ ≤ (65535 : Int); omega)) (by first | decide | (show _ ≤ (9223372036854775807 : Int); omega) | (show _ ≤ (4294967295 : Int); omega) | (show _ ≤ (18446744073709551615 : Int); omega) | (show _ ≤ (255 : Int); omega) | (show _ ≤ (65535 : Int); omega))) ?_
      refine AQuiet.cons 50 rfl rfl rfl (OpJ.eql rfl rfl rfl) ?_
      refine AQuiet.cons 51 rfl rfl rfl (OpJ.move rfl rfl) ?_
      refine AQuiet.guard 52 51 rfl rfl rfl rfl rfl rfl rfl [(11, _)] (fun h => And.intro (.inl rfl) (trivial)) (fun h => (OpJ.fieldAddr rfl rfl fd50_0 rfl)) ?_
      refine AQuiet.guard 53 51 rfl rfl rfl rfl rfl rfl rfl [(52, _)] (fun h => And.intro (.inr ⟨_, rfl, h⟩) (trivial)) (fun h => (OpJ.load (v := .p (.int .i64 (((pkF w1 c.clamps i) : Nat) : Int))) rfl rfl ty3 rfl)) ?_
      refine AQuiet.guard 54 51 rfl rfl rfl rfl rfl rfl rfl [(53, _)] (fun h => And.intro (.inr ⟨_, rfl, h⟩) (trivial)) (fun h => (OpJ.callP (rsize_ok (pkF w1 c.clamps i) (by omega)) rfl rfl rfl rfl rf13)) ?_
      refine AQuiet.guard 55 51 rfl rfl rfl rfl rfl rfl rfl [(5, _)] (fun h => And.intro (.inl rfl) (trivial)) (fun h => (OpJ.fieldAddr rfl rfl fd24_2 rfl)) ?_
      refine AQuiet.guard 56 51 rfl rfl rfl rfl rfl rfl rfl [(55, _)] (fun h => And.intro (.inr ⟨_, rfl, h⟩) (trivial)) (fun h => (OpJ.load (v := .p (.int .i64 c.clamps)) rfl rfl ty3 rfl)) ?_
      refine AQuiet.guard 57 51 rfl rfl rfl rfl rfl rfl rfl [(54, _), (56, _)] (fun h => And.intro (.inr ⟨_, rfl, h⟩) (And.intro (.inr ⟨_, rfl, h⟩) (trivial))) (fun h => (OpJ.lss rfl rfl rfl)) ?_
      refine AQuiet.cons 58 rfl rfl rfl (OpJ.and_ rfl rfl rfl ?_) ?_
      · first | (intro h; rw [h]; rfl) | (intro h; simp_all)
      refine AQuiet.nil ?_
      refine AList.nil ?_
      refine AWp.cond _ rfl (fun hc2 => ?_) (fun hc2 => ?_)
      · skip
        have hst : pkF w1 c.clamps (i + 1) = pkF w1 c.clamps i ||| 1 * 2 ^ i := by rw [Nat.one_mul, pkF, if_pos (by rw [← bitE]; exact hc2)]
        refine AWp.regionDraw 6 mixed (by kernel_rfl) (by decide) ?_
        refine AQuiet.cons 59 rfl rfl rfl (OpJ.fieldAddr rfl rfl fd50_0 rfl) ?_
        refine AQuiet.cons 60 rfl rfl rfl (OpJ.load (v := .p (.int .i64 (((pkF w1 c.clamps i) : Nat) : Int))) rfl rfl ty3 rfl) ?_
        refine AQuiet.cons 61 rfl rfl rfl (OpJ.move rfl rfl) ?_
        refine AQuiet.cons 62 rfl rfl rfl (OpJ.shlN 1 i rfl rfl rfl (by show _ ≤ (64 : Nat); omega) (by show _ ≤ (9223372036854775807 : Int); rw [Nat.one_mul]; omega)) ?_
        refine AQuiet.cons 63 rfl rfl rfl (OpJ.orN (pkF w1 c.clamps i) (1 * 2 ^ i) rfl rfl rfl (by show _ ≤ (9223372036854775807 : Int); omega) (by show _ ≤ (9223372036854775807 : Int); rw [Nat.one_mul]; omega) (by show _ ≤ (9223372036854775807 : Int); omega)) ?_
        refine AQuiet.cons 64 rfl rfl rfl (OpJ.fieldAddr rfl rfl fd50_0 rfl) ?_
        refine AQuiet.nil ?_
        refine AList.c0 rfl rfl (OpJ.store rfl rfl rfl rfl rfl ty3 rfl rfl) ?_
        refine AList.nil ?_
        refine AWp.region ?_
        refine AList.c 65 rfl rfl rfl (OpJ.add rfl rfl rfl (i64ok ?_)) ?_
        · omega
        refine AList.c 43 rfl rfl rfl (OpJ.move rfl rfl) ?_
        refine AList.nil ?_
        refine ⟨i + 1, ?_, ?_, ?_⟩
        · omega
        · omega
        rw [hst]
        exact To.sub (Sub.cons rfl (by repeat (first | exact Sub.nil | refine Sub.cons rfl ?_)))
      · skip
        have hst : pkF w1 c.clamps (i + 1) = pkF w1 c.clamps i := by rw [pkF, if_neg (by rw [← bitE]; intro h; rw [h] at hc2; cases hc2)]
        refine AWp.skip ?_
        refine AWp.region ?_
        refine AList.c 65 rfl rfl rfl (OpJ.add rfl rfl rfl (i64ok ?_)) ?_
        · omega
        refine AList.c 43 rfl rfl rfl (OpJ.move rfl rfl) ?_
        refine AList.nil ?_
        refine ⟨i + 1, ?_, ?_, ?_⟩
        · omega
        · omega
        rw [hst]
        exact To.sub (Sub.cons rfl (by repeat (first | exact Sub.nil | refine Sub.cons rfl ?_)))
    · skip
      obtain rfl : i = c.rows.length := by have h := of_decide_eq_false hc1; omega
      refine AWp.exit ?_
      refine AWp.seq ?_
      refine AWp.seq ?_
      refine AWp.region ?_
      refine AList.c 66 rfl rfl rfl (OpJ.fieldAddr rfl rfl fd24_1 rfl) ?_
      refine AList.c 67 rfl rfl rfl (OpJ.load (v := .p (.int .i64 c.cols)) rfl rfl ty3 rfl) ?_
      refine AList.c 68 rfl rfl rfl (OpJ.move rfl rfl) ?_
      refine AList.nil ?_
      refine AWp.block ?_
      refine AWp.loopHL [2, 3, 4, 5, 10, 11, 14, 16, 17, 19, 20, 21, 22, 23, 24, 25, 26, 28, 29, 30, 67, 91, 92, 93, 94, 95, 96, 97, 98, 99, 100, 101, 102, 103, 104, 105, 106, 107, 108, 109, 110, 111, 112, 113, 114, 115, 116, 117, 118, 119, 120, 121, 122, 123, 124, 125, 126, 127, 128, 129, 130, 131, 132, 133, 134, 135, 136, 137, 138, 139, 140, 141, 142, 143, 144, 145, 146, 147, 148, 149, 150, 151, 152, 153, 154, 155, 156, 157, 158, 159, 160, 161, 162, 163, 164, 165, 166, 167, 168, 169, 170, 171, 172, 173, 174, 175, 176, 177, 178, 179, 180, 181, 182, 183, 184, 185, 186, 187, 188, 189, 190, 191, 192, 193, 194, 195, 196, 197, 198, 199, 200, 201, 202, 203, 204, 205, 206, 207, 208, 209, 210, 211, 212, 213, 214, 215, 216, 217, 218, 219, 220, 221, 222, 223, 224, 225, 226, 227, 228, 229, 230, 231, 232, 233, 234, 235, 236, 237, 238, 239, 240, 241, 242, 243, 244, 245, 246, 247, 248, 249, 250, 251, 252, 253, 254, 255, 256] (fun g => [(68, .p (.int .i64 ((g : Nat) : Int)))]) (fun g => [.cells [.p (.int .i64 (((pkF w1 c.clamps c.rows.length) : Nat) : Int)), .p (.int .i64 (((pkF w2 c.dies g) : Nat) : Int))] 50]) (fun g => g ≤ C) (fun g => C - g) 0 (Nat.zero_le _) (To.sub (Sub.chk (Sub.cons rfl (Sub.nil)))) (fun i hj => ?_)
      refine AWp.seq ?_
      refine AWp.region ?_
      refine AList.c 69 rfl rfl rfl (OpJ.lss rfl rfl rfl) ?_
      refine AList.nil ?_
      refine AWp.seq ?_
      refine AWp.cond _ rfl (fun hc3 => ?_) (fun hc3 => ?_)
      · skip
        have hk0 : i < C := by have h := of_decide_eq_true hc3; omega
        have hpl := pkF_lt w2 c.dies i
        have hpi := Nat.pow_le_pow_right (show 0 < 2 by omega) (show i + 1 ≤ 24 by omega)
        have hpj := Nat.pow_le_pow_right (show 0 < 2 by omega) (show i ≤ 8 by omega)
        have hd := Nat.div_le_self w2 (2 ^ i)
        have hpk := Nat.pow_lt_pow_right (show 1 < 2 by omega) (show i < i + 1 by omega)
        have hor : pkF w2 c.dies i ||| 1 * 2 ^ i < 2 ^ (i + 1) := Nat.or_lt_two_pow (by omega) (by rw [Nat.one_mul]; exact hpk)
        refine AWp.skip ?_
        refine AWp.seq ?_
        refine AWp.block ?_
        refine AWp.seq ?_
        refine AWp.region ?_
        refine AList.c 70 rfl rfl rfl (OpJ.move rfl rfl) ?_
        refine AList.c 13 rfl rfl rfl (OpJ.assign rfl rfl) ?_
        refine AList.nil ?_
        refine AWp.seq ?_
        refine AWp.regionDraw 13 mixed (by kernel_rfl) (by decide) ?_
        refine AQuiet.cons 71 rfl rfl rfl (OpJ.move rfl rfl) ?_
        refine AQuiet.cons 72 rfl rfl rfl (OpJ.move rfl rfl) ?_
        refine AQuiet.cons 73 rfl rfl rfl (OpJ.shrN w2 i rfl rfl rfl (by first | decide | (show _ ≤ (9223372036854775807 : Int); omega) | (show _ ≤ (4294967295 : Int); omega) | (show _ ≤ (18446744073709551615 : Int); omega) | (show _ ≤ (255 : Int); omega) | (show _ ≤ (65535 : Int); omega))) ?_
        refine AQuiet.cons 74 rfl rfl rfl (OpJ.andN (w2 / 2 ^ i) 1 rfl rfl rfl (by first | (show _ ≤ (9223372036854775807 : Int); omega) | (show _ ≤ (4294967295 : Int); omega) | (show _ ≤ (18446744073709551615 : Int); omega) | (show _ ≤ (255 : Int); omega) | (show _ ≤ (65535 : Int); omega)) (by first | decide | (show _ ≤ (9223372036854775807 : Int); omega) | (show _ ≤ (4294967295 : Int); omega) | (show _ ≤ (18446744073709551615 : Int); omega) | (show _ ≤ (255 : Int); omega) | (show _ ≤ (65535 : Int); omega))) ?_
        refine AQuiet.cons 75 rfl rfl rfl (OpJ.eql rfl rfl rfl) ?_
        refine AQuiet.cons 76 rfl rfl rfl (OpJ.move rfl rfl) ?_
        refine AQuiet.guard 77 76 rfl rfl rfl rfl rfl rfl rfl [(11, _)] (fun h => And.intro (.inl rfl) (trivial)) (fun h => (OpJ.fieldAddr rfl rfl fd50_1 rfl)) ?_
        refine AQuiet.guard 78 76 rfl rfl rfl rfl rfl rfl rfl [(77, _)] (fun h => And.intro (.inr ⟨_, rfl, h⟩) (trivial)) (fun h => (OpJ.load (v := .p (.int .i64 (((pkF w2 c.dies i) : Nat) : Int))) rfl rfl ty3 rfl)) ?_
        refine AQuiet.guard 79 76 rfl rfl rfl rfl rfl rfl rfl [(78, _)] (fun h => And.intro (.inr ⟨_, rfl, h⟩) (trivial)) (fun h => (OpJ.callP (rsize_ok (pkF w2 c.dies i) (by omega)) rfl rfl rfl rfl rf13)) ?_
        refine AQuiet.guard 80 76 rfl rfl rfl rfl rfl rfl rfl [(5, _)] (fun h => And.intro (.inl rfl) (trivial)) (fun h => (OpJ.fieldAddr rfl rfl fd24_3 rfl)) ?_
        refine AQuiet.guard 81 76 rfl rfl rfl rfl rfl rfl rfl [(80, _)] (fun h => And.intro (.inr ⟨_, rfl, h⟩) (trivial)) (fun h => (OpJ.load (v := .p (.int .i64 c.dies)) rfl rfl ty3 rfl)) ?_
        refine AQuiet.guard 82 76 rfl rfl rfl rfl rfl rfl rfl [(79, _), (81, _)] (fun h => And.intro (.inr ⟨_, rfl, h⟩) (And.intro (.inr ⟨_, rfl, h⟩) (trivial))) (fun h => (OpJ.lss rfl rfl rfl)) ?_
        refine AQuiet.cons 83 rfl rfl rfl (OpJ.and_ rfl rfl rfl ?_) ?_
        · first | (intro h; rw [h]; rfl) | (intro h; simp_all)
        refine AQuiet.nil ?_
        refine AList.nil ?_
        refine AWp.cond _ rfl (fun hc4 => ?_) (fun hc4 => ?_)
        · skip
          have hst : pkF w2 c.dies (i + 1) = pkF w2 c.dies i ||| 1 * 2 ^ i := by rw [Nat.one_mul, pkF, if_pos (by rw [← bitE]; exact hc4)]
          refine AWp.regionDraw 6 mixed (by kernel_rfl) (by decide) ?_
          refine AQuiet.cons 84 rfl rfl rfl (OpJ.fieldAddr rfl rfl fd50_1 rfl) ?_
          refine AQuiet.cons 85 rfl rfl rfl (OpJ.load (v := .p (.int .i64 (((pkF w2 c.dies i) : Nat) : Int))) rfl rfl ty3 rfl) ?_
          refine AQuiet.cons 86 rfl rfl rfl (OpJ.move rfl rfl) ?_
          refine AQuiet.cons 87 rfl rfl rfl (OpJ.shlN 1 i rfl rfl rfl (by show _ ≤ (64 : Nat); omega) (by show _ ≤ (9223372036854775807 : Int); rw [Nat.one_mul]; omega)) ?_
          refine AQuiet.cons 88 rfl rfl rfl (OpJ.orN (pkF w2 c.dies i) (1 * 2 ^ i) rfl rfl rfl (by show _ ≤ (9223372036854775807 : Int); omega) (by show _ ≤ (9223372036854775807 : Int); rw [Nat.one_mul]; omega) (by show _ ≤ (9223372036854775807 : Int); omega)) ?_
          refine AQuiet.cons 89 rfl rfl rfl (OpJ.fieldAddr rfl rfl fd50_1 rfl) ?_
          refine AQuiet.nil ?_
          refine AList.c0 rfl rfl (OpJ.store rfl rfl rfl rfl rfl ty3 rfl rfl) ?_
          refine AList.nil ?_
          refine AWp.region ?_
          refine AList.c 90 rfl rfl rfl (OpJ.add rfl rfl rfl (i64ok ?_)) ?_
          · omega
          refine AList.c 68 rfl rfl rfl (OpJ.move rfl rfl) ?_
          refine AList.nil ?_
          refine ⟨i + 1, ?_, ?_, ?_⟩
          · omega
          · omega
          rw [hst]
          exact To.sub (Sub.cons rfl (by repeat (first | exact Sub.nil | refine Sub.cons rfl ?_)))
        · skip
          have hst : pkF w2 c.dies (i + 1) = pkF w2 c.dies i := by rw [pkF, if_neg (by rw [← bitE]; intro h; rw [h] at hc4; cases hc4)]
          refine AWp.skip ?_
          refine AWp.region ?_
          refine AList.c 90 rfl rfl rfl (OpJ.add rfl rfl rfl (i64ok ?_)) ?_
          · omega
          refine AList.c 68 rfl rfl rfl (OpJ.move rfl rfl) ?_
          refine AList.nil ?_
          refine ⟨i + 1, ?_, ?_, ?_⟩
          · omega
          · omega
          rw [hst]
          exact To.sub (Sub.cons rfl (by repeat (first | exact Sub.nil | refine Sub.cons rfl ?_)))
      · skip
        obtain rfl : C = i := by have h := of_decide_eq_false hc3; omega
        have hAm : pkF w1 c.clamps c.rows.length ∈ setsL c.rows.length c.clamps := sets_mem.2 ⟨pkF_lt _ _ _, pkF_sz _ hk1 _ hR⟩
        have hBm : pkF w2 c.dies C ∈ setsL c.cols.toNat c.dies := by rw [hCt]; exact sets_mem.2 ⟨pkF_lt _ _ _, pkF_sz _ hd1 _ hC8⟩
        have hA8 := Nat.lt_of_lt_of_le (pkF_lt w1 c.clamps c.rows.length) (Nat.pow_le_pow_right (show 0 < 2 by omega) hR)
        have hB8 := Nat.lt_of_lt_of_le (pkF_lt w2 c.dies C) (Nat.pow_le_pow_right (show 0 < 2 by omega) hC8)
        have hBC := pkF_lt w2 c.dies C
        obtain ⟨A, hA⟩ : ∃ n, pkF w1 c.clamps c.rows.length = n := ⟨_, rfl⟩
        obtain ⟨B, hB⟩ : ∃ n, pkF w2 c.dies C = n := ⟨_, rfl⟩
        rw [hA] at hAm hA8 ⊢
        rw [hB] at hBm hB8 hBC ⊢
        refine AWp.exit ?_
        refine AWp.seq ?_
        refine AWp.freeze 0 rfl rfl ?_
        refine AWp.norm [] [(3, _), (4, _), (5, _), (11, .p (.ip [.int .i64 (A : Int), .int .i64 (B : Int)] 0))] [] rfl (by repeat (first | exact Sub.nil | refine Sub.cons rfl ?_)) rfl ?_
        refine AWp.region ?_
        refine AList.c 14 rfl rfl rfl (OpJ.assign rfl rfl) ?_
        refine AList.nil ?_
        refine AWp.seq ?_
        refine AWp.seq ?_
        refine AWp.region ?_
        refine AList.c 91 rfl rfl rfl (OpJ.fieldAddr rfl rfl fd24_0 rfl) ?_
        refine AList.c 92 rfl rfl rfl (OpJ.load (v := .p (intsV c.rows)) rfl rfl ty22 rfl) ?_
        refine AList.c 93 rfl rfl rfl (OpJ.lenSlice rfl rfl sl22 rfl) ?_
        refine AList.c 94 rfl rfl rfl (OpJ.move rfl rfl) ?_
        refine AList.nil ?_
        refine AWp.block ?_
        refine AWp.loopKL [3, 4, 5, 10, 11, 17, 19, 20, 21, 22, 23, 24, 25, 26, 28, 29, 30, 92, 93, 105, 106, 107, 108, 109, 110, 111, 112, 113, 114, 115, 116, 117, 118, 119, 120, 121, 122, 123, 124, 125, 126, 127, 128, 129, 130, 131, 132, 133, 134, 135, 136, 137, 138, 139, 140, 141, 142, 143, 144, 145, 146, 147, 148, 149, 150, 151, 152, 153, 154, 155, 156, 157, 158, 159, 160, 161, 162, 163, 164, 165, 166, 167, 168, 169, 170, 171, 172, 173, 174, 175, 176, 177, 178, 179, 180, 181, 182, 183, 184, 185, 186, 187, 188, 189, 190, 191, 192, 193, 194, 195, 196, 197, 198, 199, 200, 201, 202, 203, 204, 205, 206, 207, 208, 209, 210, 211, 212, 213, 214, 215, 216, 217, 218, 219, 220, 221, 222, 223, 224, 225, 226, 227, 228, 229, 230, 231, 232, 233, 234, 235, 236, 237, 238, 239, 240, 241, 242, 243, 244, 245, 246, 247, 248, 249, 250, 251, 252, 253, 254, 255, 256] (fun g => [(94, .p (.int .i64 ((g : Nat) : Int))), (14, .p (.int .i64 (allF c g)))]) (fun g => g ≤ c.rows.length) (fun g => c.rows.length - g) 0 (Nat.zero_le _) (Sub.cons rfl (Sub.cons rfl (Sub.nil))) (fun i hj => ?_)
        refine AWp.seq ?_
        refine AWp.region ?_
        refine AList.c 95 rfl rfl rfl (OpJ.lss rfl rfl rfl) ?_
        refine AList.nil ?_
        refine AWp.seq ?_
        refine AWp.cond _ rfl (fun hc5 => ?_) (fun hc5 => ?_)
        · skip
          have hk0 : i < c.rows.length := by have h := of_decide_eq_true hc5; omega
          have hBa := allF_B hcr i (by omega)
          have hms := (many_step hcr (b := 0) hk0).1
          refine AWp.skip ?_
          refine AWp.seq ?_
          refine AWp.block ?_
          refine AWp.seq ?_
          refine AWp.region ?_
          refine AList.c 96 rfl rfl rfl (OpJ.indexG (g := nt c.rows) nt_get rfl rfl rfl sl22 el22 rfl (fun _ => rfl) (by decide) hk0) ?_
          refine AList.c 97 rfl rfl rfl (OpJ.load (v := .p (.int .i64 (nt c.rows i))) rfl rfl ty3 rfl) ?_
          refine AList.c 16 rfl rfl rfl (OpJ.assign rfl rfl) ?_
          refine AList.nil ?_
          refine AWp.region ?_
          refine AList.c 98 rfl rfl rfl (OpJ.move rfl rfl) ?_
          refine AList.c 99 rfl rfl rfl (OpJ.move rfl rfl) ?_
          refine AList.c 100 rfl rfl rfl (OpJ.fieldAddr rfl rfl fd24_1 rfl) ?_
          refine AList.c 101 rfl rfl rfl (OpJ.load (v := .p (.int .i64 c.cols)) rfl rfl ty3 rfl) ?_
          refine AList.c 102 rfl rfl rfl (OpJ.mul rfl rfl rfl (i64ok ?_)) ?_
          · omega
          refine AList.c 103 rfl rfl rfl (OpJ.add rfl rfl rfl (i64ok ?_)) ?_
          · omega
          refine AList.c 14 rfl rfl rfl (OpJ.assign rfl rfl) ?_
          refine AList.nil ?_
          refine AWp.region ?_
          refine AList.c 104 rfl rfl rfl (OpJ.add rfl rfl rfl (i64ok ?_)) ?_
          · omega
          refine AList.c 94 rfl rfl rfl (OpJ.move rfl rfl) ?_
          refine AList.nil ?_
          refine ⟨i + 1, ?_, ?_, ?_⟩
          · omega
          · omega
          exact To.sub (Sub.cons rfl (Sub.cons rfl (by repeat (first | exact Sub.nil | refine Sub.cons rfl ?_))))
        · skip
          obtain rfl : i = c.rows.length := by have h := of_decide_eq_false hc5; omega
          have hBa := allF_B hcr c.rows.length (Nat.le_refl _)
          obtain ⟨al, hal⟩ : ∃ n : Nat, allF c c.rows.length = (n : Int) := ⟨(allF c c.rows.length).toNat, by omega⟩
          rw [hal] at hBa ⊢
          refine AWp.exit ?_
          refine AWp.seq ?_
          refine AWp.norm [] [(3, _), (4, _), (5, _), (11, _), (14, _)] [] rfl (by repeat (first | exact Sub.nil | refine Sub.cons rfl ?_)) rfl ?_
          refine AWp.region ?_
          refine AList.c 17 rfl rfl rfl (OpJ.assign rfl rfl) ?_
          refine AList.nil ?_
          refine AWp.seq ?_
          refine AWp.seq ?_
          refine AWp.region ?_
          refine AList.c 105 rfl rfl rfl (OpJ.move rfl rfl) ?_
          refine AList.c 106 rfl rfl rfl (OpJ.lenSlice rfl rfl sl47 rfl) ?_
          refine AList.c 107 rfl rfl rfl (OpJ.move rfl rfl) ?_
          refine AList.nil ?_
          refine AWp.block ?_
          refine AWp.loopHL [4, 5, 10, 11, 14, 21, 22, 23, 24, 25, 26, 28, 29, 30, 105, 106, 136, 137, 138, 139, 140, 141, 142, 143, 144, 145, 146, 147, 148, 149, 150, 151, 152, 153, 154, 155, 156, 157, 158, 159, 160, 161, 162, 163, 164, 165, 166, 167, 168, 169, 170, 171, 172, 173, 174, 175, 176, 177, 178, 179, 180, 181, 182, 183, 184, 185, 186, 187, 188, 189, 190, 191, 192, 193, 194, 195, 196, 197, 198, 199, 200, 201, 202, 203, 204, 205, 206, 207, 208, 209, 210, 211, 212, 213, 214, 215, 216, 217, 218, 219, 220, 221, 222, 223, 224, 225, 226, 227, 228, 229, 230, 231, 232, 233, 234, 235, 236, 237, 238, 239, 240, 241, 242, 243, 244, 245, 246, 247, 248, 249, 250, 251, 252, 253, 254, 255, 256] (fun g => [(107, .p (.int .i64 ((g : Nat) : Int))), (17, accV 0 g)]) (fun g => [accB (((loks c A B (by_.take g)).flatMap Lk.cells).map .p) 33 g]) (fun g => g ≤ by_.length) (fun g => by_.length - g) 0 (Nat.zero_le _) (To.pad.trans (To.sub (Sub.chk (Sub.cons rfl (Sub.cons rfl Sub.nil))))) (fun i hj => ?_)
          refine AWp.seq ?_
          refine AWp.region ?_
          refine AList.c 108 rfl rfl rfl (OpJ.lss rfl rfl rfl) ?_
          refine AList.nil ?_
          refine AWp.seq ?_
          refine AWp.cond _ rfl (fun hc6 => ?_) (fun hc6 => ?_)
          · skip
            have hk0 : i < by_.length := by have h := of_decide_eq_true hc6; omega
            have hn := hby _ (ut_mem hk0)
            have hm1 := Nat.mod_lt (ut by_ i) (show 0 < c.rows.length by omega)
            have hm2 := Nat.mod_lt ((ut by_ i) / 2 ^ 4) hC0
            have hd4 := Nat.div_le_self (ut by_ i) (2 ^ 4)
            refine AWp.skip ?_
            refine AWp.seq ?_
            refine AWp.block ?_
            refine AWp.seq ?_
            refine AWp.region ?_
            refine AList.c 109 rfl rfl rfl (OpJ.indexG (g := ut by_) ut_get rfl rfl rfl sl47 el47 rfl (fun _ => rfl) (by decide) hk0) ?_
            refine AList.c 110 rfl rfl rfl (OpJ.load (v := .p (.int .u16 (((ut by_ i) : Nat) : Int))) rfl rfl ty48 rfl) ?_
            refine AList.c 19 rfl rfl rfl (OpJ.assign rfl rfl) ?_
            refine AList.nil ?_
            refine AWp.seq ?_
            refine AWp.regionDrawC 15 mixed (by kernel_rfl) (by decide) ?_
            refine AQuietC.cons 111 rfl rfl rfl (OpJ.move rfl rfl) (fun _ => (OpJ.move rfl rfl)) ?_
            refine AQuietC.cons 112 rfl rfl rfl (OpJ.convInt rfl rfl (by rw [un48]; rfl) un3 (i64ok ?_)) (fun _ => (OpJ.convInt rfl rfl (by rw [un48]; rfl) un3 (i64ok ?_))) ?_
            · omega
            · omega
            refine AQuietC.cons 113 rfl rfl rfl (OpJ.fieldAddr rfl rfl fd24_0 rfl) (fun _ => (OpJ.fieldAddr rfl rfl fd24_0 rfl)) ?_
            refine AQuietC.cons 114 rfl rfl rfl (OpJ.load (v := .p (intsV c.rows)) rfl rfl ty22 rfl) (fun _ => (OpJ.load (v := .p (intsV c.rows)) rfl rfl ty22 rfl)) ?_
            refine AQuietC.cons 115 rfl rfl rfl (OpJ.lenSlice rfl rfl sl22 rfl) (fun _ => (OpJ.lenSlice rfl rfl sl22 rfl)) ?_
            refine AQuietC.cons 116 rfl rfl rfl (OpJ.rem (m := ((((ut by_ i) % c.rows.length) : Nat) : Int)) rfl rfl rfl ?_ ?_) (fun _ => (OpJ.rem (m := ((((ut by_ i) % c.rows.length) : Nat) : Int)) rfl rfl rfl ?_ ?_)) ?_
            · omega
            · rfl
            · omega
            · rfl
            refine AQuietC.cons 117 rfl rfl rfl (OpJ.move rfl rfl) (fun _ => (OpJ.move rfl rfl)) ?_
            refine AQuietC.cons 118 rfl rfl rfl (OpJ.shrN (ut by_ i) 4 rfl rfl rfl (by first | decide | (show _ ≤ (9223372036854775807 : Int); omega) | (show _ ≤ (4294967295 : Int); omega) | (show _ ≤ (18446744073709551615 : Int); omega) | (show _ ≤ (255 : Int); omega) | (show _ ≤ (65535 : Int); omega))) (fun _ => (OpJ.shrN (ut by_ i) 4 rfl rfl rfl (by first | decide | (show _ ≤ (9223372036854775807 : Int); omega) | (show _ ≤ (4294967295 : Int); omega) | (show _ ≤ (18446744073709551615 : Int); omega) | (show _ ≤ (255 : Int); omega) | (show _ ≤ (65535 : Int); omega)))) ?_
            refine AQuietC.cons 119 rfl rfl rfl (OpJ.convInt rfl rfl (by rw [un48]; rfl) un3 (i64ok ?_)) (fun _ => (OpJ.convInt rfl rfl (by rw [un48]; rfl) un3 (i64ok ?_))) ?_
            · omega
            · omega
            refine AQuietC.cons 120 rfl rfl rfl (OpJ.fieldAddr rfl rfl fd24_1 rfl) (fun _ => (OpJ.fieldAddr rfl rfl fd24_1 rfl)) ?_
            refine AQuietC.cons 121 rfl rfl rfl (OpJ.load (v := .p (.int .i64 c.cols)) rfl rfl ty3 rfl) (fun _ => (OpJ.load (v := .p (.int .i64 c.cols)) rfl rfl ty3 rfl)) ?_
            rw [hCn]
            refine AQuietC.cons 122 rfl rfl rfl (OpJ.rem (m := ((((ut by_ i) / 2 ^ 4 % C) : Nat) : Int)) rfl rfl rfl ?_ ?_) (fun _ => (OpJ.rem (m := ((((ut by_ i) / 2 ^ 4 % C) : Nat) : Int)) rfl rfl rfl ?_ ?_)) ?_
            · omega
            · rfl
            · omega
            · rfl
            refine AQuietC.cons 123 rfl rfl rfl (OpJ.buildR (v := .p (.agg [.int .i64 ((((ut by_ i) % c.rows.length) : Nat) : Int), .int .i64 ((((ut by_ i) / 2 ^ 4 % C) : Nat) : Int), .int .i64 0])) rfl bd33 rfl rfl rfl) (fun _ => (OpJ.buildR (v := .p (.agg [.int .i64 ((((ut by_ i) % c.rows.length) : Nat) : Int), .int .i64 ((((ut by_ i) / 2 ^ 4 % C) : Nat) : Int), .int .i64 0])) rfl bd33 rfl rfl rfl)) ?_
            refine AQuietC.lay 20 rfl rfl rfl (OpJ.allocOwn rfl zr33 rfl) ?_
            refine AQuietC.put rfl rfl (by decide) (OpJ.store rfl rfl rfl rfl rfl ty33 rfl rfl) rfl ?_
            refine AQuietC.nil ?_
            refine AList.nil ?_
            refine AWp.seq ?_
            refine AWp.seq ?_
            refine AWp.region ?_
            refine AList.c 124 rfl rfl rfl (OpJ.load (v := .p (.agg [.int .i64 (A : Int), .int .i64 (B : Int)])) rfl rfl ty50 rfl) ?_
            refine AList.c 125 rfl rfl rfl (OpJ.fieldAddr rfl rfl fd33_0 rfl) ?_
            refine AList.c 126 rfl rfl rfl (OpJ.load (v := .p (.int .i64 ((((ut by_ i) % c.rows.length) : Nat) : Int))) rfl rfl ty3 rfl) ?_
            refine AList.c 127 rfl rfl rfl (OpJ.fieldAddr rfl rfl fd33_1 rfl) ?_
            refine AList.c 128 rfl rfl rfl (OpJ.load (v := .p (.int .i64 ((((ut by_ i) / 2 ^ 4 % C) : Nat) : Int))) rfl rfl ty3 rfl) ?_
            refine AList.c 129 rfl rfl rfl (OpJ.callP (rbad_ok A B ((ut by_ i) % c.rows.length) ((ut by_ i) / 2 ^ 4 % C) hA8 hB8 (by omega) (by omega)) rfl rfl rfl rfl rf14) ?_
            refine AList.nil ?_
            refine AWp.cond _ rfl (fun hc7 => ?_) (fun hc7 => ?_)
            · skip
              have hlk : lokF c A B (ut by_ i) = ⟨((((ut by_ i) % c.rows.length) : Nat) : Int), ((((ut by_ i) / 2 ^ 4 % C) : Nat) : Int), 1⟩ := by unfold lokF; rw [hCt, if_pos hc7]
              refine AWp.region ?_
              refine AList.c 130 rfl rfl rfl (OpJ.fieldAddr rfl rfl fd33_2 rfl) ?_
              refine AList.c0 rfl rfl (OpJ.store rfl rfl rfl rfl rfl ty3 rfl rfl) ?_
              refine AList.nil ?_
              refine AWp.region ?_
              refine AList.c 131 rfl rfl rfl (OpJ.move rfl rfl) ?_
              refine AList.c 132 rfl rfl rfl (OpJ.load (v := .p (.agg [.int .i64 ((((ut by_ i) % c.rows.length) : Nat) : Int), .int .i64 ((((ut by_ i) / 2 ^ 4 % C) : Nat) : Int), .int .i64 1])) rfl rfl ty33 rfl) ?_
              refine AList.c 133 rfl rfl rfl (OpJ.buildImm rfl slz25 (by decide) rfl rfl rfl) ?_
              refine AList.c 134 rfl rfl rfl (OpJ.appendAcc rfl rfl rfl slz25 sl25 rfl ?_ rfl (by decide) rfl by33 (by decide) ?_) ?_
              · unfold loks; rw [List.length_map, flat_len (c := 3) (fun _ => rfl), List.length_map, List.length_take]; show min _ _ * 3 = _ * 3; omega
              · omega
              refine AList.c 17 rfl rfl rfl (OpJ.assign rfl rfl) ?_
              refine AList.nil ?_
              refine AWp.region ?_
              refine AList.c 135 rfl rfl rfl (OpJ.add rfl rfl rfl (i64ok ?_)) ?_
              · omega
              refine AList.c 107 rfl rfl rfl (OpJ.move rfl rfl) ?_
              refine AList.nil ?_
              refine ⟨i + 1, ?_, ?_, ?_⟩
              · omega
              · omega
              refine To.done [2] rfl (by repeat (first | exact Sub.nil | refine Sub.cons rfl ?_)) ?_
              show [Blk.row (renL _ (_ ++ _)) _] = [Blk.row _ _]
              rw [renL_app, renL_pure, show loks c A B (by_.take (i + 1)) = loks c A B (by_.take i) ++ [⟨((((ut by_ i) % c.rows.length) : Nat) : Int), ((((ut by_ i) / 2 ^ 4 % C) : Nat) : Int), 1⟩] from by unfold loks; rw [List.take_succ_eq_append_getElem hk0, List.map_append, ut_get i hk0, ← hlk]; rfl, List.flatMap_append, List.map_append]
              rfl
            · skip
              have hlk : lokF c A B (ut by_ i) = ⟨((((ut by_ i) % c.rows.length) : Nat) : Int), ((((ut by_ i) / 2 ^ 4 % C) : Nat) : Int), 0⟩ := by unfold lokF; rw [hCt, if_neg (by rw [hc7]; decide)]
              refine AWp.skip ?_
              refine AWp.region ?_
              refine AList.c 131 rfl rfl rfl (OpJ.move rfl rfl) ?_
              refine AList.c 132 rfl rfl rfl (OpJ.load (v := .p (.agg [.int .i64 ((((ut by_ i) % c.rows.length) : Nat) : Int), .int .i64 ((((ut by_ i) / 2 ^ 4 % C) : Nat) : Int), .int .i64 0])) rfl rfl ty33 rfl) ?_
              refine AList.c 133 rfl rfl rfl (OpJ.buildImm rfl slz25 (by decide) rfl rfl rfl) ?_
              refine AList.c 134 rfl rfl rfl (OpJ.appendAcc rfl rfl rfl slz25 sl25 rfl ?_ rfl (by decide) rfl by33 (by decide) ?_) ?_
              · unfold loks; rw [List.length_map, flat_len (c := 3) (fun _ => rfl), List.length_map, List.length_take]; show min _ _ * 3 = _ * 3; omega
              · omega
              refine AList.c 17 rfl rfl rfl (OpJ.assign rfl rfl) ?_
              refine AList.nil ?_
              refine AWp.region ?_
              refine AList.c 135 rfl rfl rfl (OpJ.add rfl rfl rfl (i64ok ?_)) ?_
              · omega
              refine AList.c 107 rfl rfl rfl (OpJ.move rfl rfl) ?_
              refine AList.nil ?_
              refine ⟨i + 1, ?_, ?_, ?_⟩
              · omega
              · omega
              refine To.done [2] rfl (by repeat (first | exact Sub.nil | refine Sub.cons rfl ?_)) ?_
              show [Blk.row (renL _ (_ ++ _)) _] = [Blk.row _ _]
              rw [renL_app, renL_pure, show loks c A B (by_.take (i + 1)) = loks c A B (by_.take i) ++ [⟨((((ut by_ i) % c.rows.length) : Nat) : Int), ((((ut by_ i) / 2 ^ 4 % C) : Nat) : Int), 0⟩] from by unfold loks; rw [List.take_succ_eq_append_getElem hk0, List.map_append, ut_get i hk0, ← hlk]; rfl, List.flatMap_append, List.map_append]
              rfl
          · skip
            obtain rfl : i = by_.length := by have h := of_decide_eq_false hc6; omega
            refine AWp.to (To.accD 17 0 by_.length rfl rfl (fun h => by rw [h]; rfl)) ?_
            rw [List.take_length, show PV.is ((loks c A B by_).flatMap Lk.cells) by_.length = lksV (loks c A B by_) from by unfold lksV loks; rw [List.length_map]]
            have hG : Good c A B (loks c A B by_) := ⟨hcr, hAm, hBm, ⟨by_, rfl⟩⟩
            have hsp := good_span hG
            have hall : allN c = (al : Int) := hal
            rw [hall] at hsp
            have hll : (loks c A B by_).length = by_.length := by unfold loks; rw [List.length_map]
            have hop : opE c (loks c A B by_) = 0 := by
              unfold opE
              rw [if_pos hcr, if_neg (by rw [hll]; omega), if_neg, if_neg]
              · intro e; have h2 := good_tru hG; rw [List.length_eq_zero_iff.1 e] at h2; cases h2
              · intro e; obtain ⟨x, hx, h2⟩ := List.any_eq_true.1 e; rw [good_wr hG x hx] at h2; cases h2
            have hmB := manyN_B hcr A B
            obtain ⟨lo, hlo⟩ : ∃ n, (picF c (truL c (loks c A B by_))).lo = n := ⟨_, rfl⟩
            obtain ⟨hi, hhi⟩ : ∃ n, (picF c (truL c (loks c A B by_))).hi = n := ⟨_, rfl⟩
            have hcs : cntS c (loks c A B by_) = (lo, hi) := by unfold cntS; rw [if_pos hop, hlo, hhi]
            rw [hlo, hhi] at hsp
            have hsu := sx_ok (al := (al : Int)) (lo := lo) (hi := hi) hsp.1 (by omega) hsp.2.2.2 (by omega)
            refine AWp.exit ?_
            refine AWp.seq ?_
            refine AWp.region ?_
            refine AList.c 137 rfl rfl rfl (OpJ.load (v := .p (crV c)) rfl rfl ty24 rfl) ?_
            refine AList.c 138 rfl rfl rfl (OpJ.move rfl rfl) ?_
            refine AList.c 139 rfl rfl rfl (OpJ.callP (count_ok c (loks c A B by_) hb (by rw [hll]; exact hbb)) rfl rfl rfl rfl rf9) ?_
            rw [hcs, hop]
            refine AList.c 136 rfl rfl rfl (OpJ.move rfl rfl) ?_
            refine AList.c 140 rfl rfl rfl (OpJ.extract rfl rfl rfl) ?_
            refine AList.c 141 rfl rfl rfl (OpJ.extract rfl rfl rfl) ?_
            refine AList.c 21 rfl rfl rfl (OpJ.allocOwn rfl zr40 rfl) ?_
            refine AList.c0 rfl rfl (OpJ.store rfl rfl rfl rfl rfl ty40 rfl rfl) ?_
            refine AList.c 22 rfl rfl rfl (OpJ.assign rfl rfl) ?_
            refine AList.nil ?_
            refine AWp.seq ?_
            refine AWp.seq ?_
            refine AWp.region ?_
            refine AList.c 142 rfl rfl rfl (OpJ.move rfl rfl) ?_
            refine AList.c 143 rfl rfl rfl (OpJ.neq rfl rfl rfl) ?_
            refine AList.c 144 rfl rfl rfl (OpJ.move rfl rfl) ?_
            refine AList.g 145 144 rfl rfl rfl rfl rfl rfl rfl [(21, _)] (fun h => And.intro (.inl rfl) (trivial)) (fun h => (OpJ.fieldAddr rfl rfl fd40_0 rfl)) ?_
            refine AList.g 146 144 rfl rfl rfl rfl rfl rfl rfl [(145, _)] (fun h => And.intro (.inr ⟨_, rfl, h⟩) (trivial)) (fun h => (OpJ.load (v := .p (.int .i64 lo)) rfl rfl ty3 rfl)) ?_
            refine AList.g 147 144 rfl rfl rfl rfl rfl rfl rfl [(146, _)] (fun h => And.intro (.inr ⟨_, rfl, h⟩) (trivial)) (fun h => (OpJ.lss rfl rfl rfl)) ?_
            refine AList.c 148 rfl rfl rfl (OpJ.or_ rfl rfl rfl ?_) ?_
            · first | (intro h; rw [h]; rfl) | (intro h; simp_all)
            refine AList.c 149 rfl rfl rfl (OpJ.move rfl rfl) ?_
            refine AList.g 150 149 rfl rfl rfl rfl rfl rfl rfl [(21, _)] (fun h => And.intro (.inl rfl) (trivial)) (fun h => (OpJ.fieldAddr rfl rfl fd40_0 rfl)) ?_
            refine AList.g 151 149 rfl rfl rfl rfl rfl rfl rfl [(150, _)] (fun h => And.intro (.inr ⟨_, rfl, h⟩) (trivial)) (fun h => (OpJ.load (v := .p (.int .i64 lo)) rfl rfl ty3 rfl)) ?_
            refine AList.g 152 149 rfl rfl rfl rfl rfl rfl rfl [(21, _)] (fun h => And.intro (.inl rfl) (trivial)) (fun h => (OpJ.fieldAddr rfl rfl fd40_1 rfl)) ?_
            refine AList.g 153 149 rfl rfl rfl rfl rfl rfl rfl [(152, _)] (fun h => And.intro (.inr ⟨_, rfl, h⟩) (trivial)) (fun h => (OpJ.load (v := .p (.int .i64 hi)) rfl rfl ty3 rfl)) ?_
            refine AList.g 154 149 rfl rfl rfl rfl rfl rfl rfl [(151, _), (153, _)] (fun h => And.intro (.inr ⟨_, rfl, h⟩) (And.intro (.inr ⟨_, rfl, h⟩) (trivial))) (fun h => (OpJ.gtr rfl rfl rfl)) ?_
            refine AList.c 155 rfl rfl rfl (OpJ.or_ rfl rfl rfl ?_) ?_
            · first | (intro h; rw [h]; rfl) | (intro h; simp_all)
            refine AList.c 156 rfl rfl rfl (OpJ.move rfl rfl) ?_
            refine AList.g 157 156 rfl rfl rfl rfl rfl rfl rfl [(21, _)] (fun h => And.intro (.inl rfl) (trivial)) (fun h => (OpJ.fieldAddr rfl rfl fd40_1 rfl)) ?_
            refine AList.g 158 156 rfl rfl rfl rfl rfl rfl rfl [(157, _)] (fun h => And.intro (.inr ⟨_, rfl, h⟩) (trivial)) (fun h => (OpJ.load (v := .p (.int .i64 hi)) rfl rfl ty3 rfl)) ?_
            refine AList.g 159 156 rfl rfl rfl rfl rfl rfl rfl [(14, _)] (fun h => And.intro (.inl rfl) (trivial)) (fun h => (OpJ.move rfl rfl)) ?_
            refine AList.g 160 156 rfl rfl rfl rfl rfl rfl rfl [(158, _), (159, _)] (fun h => And.intro (.inr ⟨_, rfl, h⟩) (And.intro (.inr ⟨_, rfl, h⟩) (trivial))) (fun h => (OpJ.gtr rfl rfl rfl)) ?_
            refine AList.c 161 rfl rfl rfl (OpJ.or_ rfl rfl rfl ?_) ?_
            · first | (intro h; rw [h]; rfl) | (intro h; simp_all)
            refine AList.nil ?_
            refine AWp.cond _ rfl (fun hc8 => ?_) (fun hc8 => ?_)
            · skip
              exfalso
              simp at hc8
              omega
            · skip
              refine AWp.skip ?_
              refine AWp.seq ?_
              refine AWp.region ?_
              refine AList.c 162 rfl rfl rfl (OpJ.move rfl rfl) ?_
              refine AList.c 163 rfl rfl rfl (OpJ.convInt rfl rfl (by rw [un48]; rfl) un3 (i64ok ?_)) ?_
              · omega
              refine AList.c 164 rfl rfl rfl (OpJ.move rfl rfl) ?_
              refine AList.c 165 rfl rfl rfl (OpJ.add (m := ((al + 2 : Nat) : Int)) rfl rfl rfl ((i64ok ?_).trans ?_)) ?_
              · omega
              · omega
              refine AList.c 166 rfl rfl rfl (OpJ.rem (m := ((ak % (al + 2) : Nat) : Int)) rfl rfl rfl ?_ ?_) ?_
              · omega
              · rfl
              refine AList.c 23 rfl rfl rfl (OpJ.assign rfl rfl) ?_
              refine AList.nil ?_
              refine AWp.seq ?_
              obtain ⟨N, hN⟩ : ∃ n, ak % (al + 2) = n := ⟨_, rfl⟩
              have hNl := Nat.mod_lt ak (show 0 < al + 2 by omega)
              rw [hN] at hNl ⊢
              have hoo := ox_ok (N := N) (by omega)
              refine AWp.region ?_
              refine AList.c 167 rfl rfl rfl (OpJ.move rfl rfl) ?_
              refine AList.c 168 rfl rfl rfl (OpJ.fieldAddr rfl rfl fd40_1 rfl) ?_
              refine AList.c 169 rfl rfl rfl (OpJ.load (v := .p (.int .i64 hi)) rfl rfl ty3 rfl) ?_
              refine AList.c 170 rfl rfl rfl (OpJ.sub_ rfl rfl rfl (i64ok ?_)) ?_
              · omega
              refine AList.c 171 rfl rfl rfl (OpJ.move rfl rfl) ?_
              refine AList.c 172 rfl rfl rfl (OpJ.fieldAddr rfl rfl fd40_0 rfl) ?_
              refine AList.c 173 rfl rfl rfl (OpJ.load (v := .p (.int .i64 lo)) rfl rfl ty3 rfl) ?_
              refine AList.c 174 rfl rfl rfl (OpJ.sub_ rfl rfl rfl (i64ok ?_)) ?_
              · omega
              refine AList.c 175 rfl rfl rfl (OpJ.buildR (v := .p (.agg [.int .i64 ((al : Int) - hi), .int .i64 ((al : Int) - lo)])) rfl bd40 rfl rfl rfl) ?_
              refine AList.c 176 rfl rfl rfl (OpJ.buildR (v := .p (.agg (sxG al lo hi).cells)) rfl bd55 rfl rfl rfl) ?_
              refine AList.c 177 rfl rfl rfl (OpJ.buildImm rfl slz56 (by decide) rfl rfl rfl) ?_
              refine AList.c 178 rfl rfl rfl (OpJ.move rfl rfl) ?_
              refine AList.c 179 rfl rfl rfl (OpJ.buildR (v := .p (.agg (oxG N).cells)) rfl bd58 rfl rfl rfl) ?_
              refine AList.c 180 rfl rfl rfl (OpJ.buildImm rfl slz59 (by decide) rfl rfl rfl) ?_
              refine AList.c 181 rfl rfl rfl (OpJ.buildR (v := .p (saleV (sxG al lo hi) (oxG N))) rfl bd61 rfl rfl rfl) ?_
              refine AList.c 24 rfl rfl rfl (OpJ.allocOwn rfl zr61 rfl) ?_
              refine AList.c0 rfl rfl (OpJ.store rfl rfl rfl rfl rfl ty61 rfl rfl) ?_
              refine AList.nil ?_
              refine AWp.seq ?_
              refine AWp.region ?_
              refine AList.c 183 rfl rfl rfl (OpJ.load (v := .p (saleV (sxG al lo hi) (oxG N))) rfl rfl ty61 rfl) ?_
              refine AList.c 184 rfl rfl rfl (OpJ.callP (Meets_ok (sxG al lo hi) (oxG N) 1 0 rfl rfl (by decide) (by decide) hsu hoo (Int.le_refl 0) (Int.le_refl 0)) rfl rfl rfl rfl rf15) ?_
              refine AList.c 182 rfl rfl rfl (OpJ.move rfl rfl) ?_
              refine AList.c 185 rfl rfl rfl (OpJ.extract rfl rfl rfl) ?_
              refine AList.c 186 rfl rfl rfl (OpJ.extract rfl rfl rfl) ?_
              refine AList.c 25 rfl rfl rfl (OpJ.assign rfl rfl) ?_
              refine AList.c 26 rfl rfl rfl (OpJ.assign rfl rfl) ?_
              refine AList.nil ?_
              refine AWp.seq ?_
              refine AWp.region ?_
              refine AList.c 188 rfl rfl rfl (OpJ.load (v := .p (saleV (sxG al lo hi) (oxG N))) rfl rfl ty61 rfl) ?_
              refine AList.c 189 rfl rfl rfl (OpJ.callP (Lack_ok (sxG al lo hi) (oxG N) 1 0 rfl rfl (by decide) (by decide) hsu hoo (Int.le_refl 0)) rfl rfl rfl rfl rf16) ?_
              refine AList.c 187 rfl rfl rfl (OpJ.move rfl rfl) ?_
              refine AList.c 190 rfl rfl rfl (OpJ.extract rfl rfl rfl) ?_
              refine AList.c 191 rfl rfl rfl (OpJ.extract rfl rfl rfl) ?_
              refine AList.c 192 rfl rfl rfl (OpJ.extract rfl rfl rfl) ?_
              refine AList.c 27 rfl rfl rfl (OpJ.assign rfl rfl) ?_
              refine AList.c 28 rfl rfl rfl (OpJ.assign rfl rfl) ?_
              refine AList.c 29 rfl rfl rfl (OpJ.assign rfl rfl) ?_
              refine AList.nil ?_
              refine AWp.seq ?_
              refine AWp.region ?_
              refine AList.c 193 rfl rfl rfl (OpJ.move rfl rfl) ?_
              refine AList.c 194 rfl rfl rfl (OpJ.load (v := .p (crV c)) rfl rfl ty24 rfl) ?_
              refine AList.c 195 rfl rfl rfl (OpJ.load (v := .p (.agg [.int .i64 (A : Int), .int .i64 (B : Int)])) rfl rfl ty50 rfl) ?_
              refine AList.c 196 rfl rfl rfl (OpJ.callP (rmany_ok c A B hcr hA8 (by rw [hCt]; exact hBC)) rfl rfl rfl rfl rf17) ?_
              refine AList.c 197 rfl rfl rfl (OpJ.sub_ rfl rfl rfl (i64ok ?_)) ?_
              · omega
              refine AList.c 30 rfl rfl rfl (OpJ.assign rfl rfl) ?_
              refine AList.nil ?_
              refine AWp.seq ?_
              refine AWp.seq ?_
              refine AWp.region ?_
              refine AList.c 198 rfl rfl rfl (OpJ.move rfl rfl) ?_
              refine AList.c 199 rfl rfl rfl (OpJ.neq rfl rfl rfl) ?_
              refine AList.c 200 rfl rfl rfl (OpJ.move rfl rfl) ?_
              refine AList.g 201 200 rfl rfl rfl rfl rfl rfl rfl [(25, _)] (fun h => And.intro (.inl rfl) (trivial)) (fun h => (OpJ.move rfl rfl)) ?_
              refine AList.g 202 200 rfl rfl rfl rfl rfl rfl rfl [(201, _)] (fun h => And.intro (.inr ⟨_, rfl, h⟩) (trivial)) (fun h => (OpJ.eql rfl rfl rfl)) ?_
              refine AList.g 203 200 rfl rfl rfl rfl rfl rfl rfl [(23, _)] (fun h => And.intro (.inl rfl) (trivial)) (fun h => (OpJ.move rfl rfl)) ?_
              refine AList.g 204 200 rfl rfl rfl rfl rfl rfl rfl [(14, _)] (fun h => And.intro (.inl rfl) (trivial)) (fun h => (OpJ.move rfl rfl)) ?_
              refine AList.g 205 200 rfl rfl rfl rfl rfl rfl rfl [(21, _)] (fun h => And.intro (.inl rfl) (trivial)) (fun h => (OpJ.fieldAddr rfl rfl fd40_1 rfl)) ?_
              refine AList.g 206 200 rfl rfl rfl rfl rfl rfl rfl [(205, _)] (fun h => And.intro (.inr ⟨_, rfl, h⟩) (trivial)) (fun h => (OpJ.load (v := .p (.int .i64 hi)) rfl rfl ty3 rfl)) ?_
              refine AList.g 207 200 rfl rfl rfl rfl rfl rfl rfl [(204, _), (206, _)] (fun h => And.intro (.inr ⟨_, rfl, h⟩) (And.intro (.inr ⟨_, rfl, h⟩) (trivial))) (fun h => (OpJ.sub_ rfl rfl rfl (i64ok (by omega)))) ?_
              refine AList.g 208 200 rfl rfl rfl rfl rfl rfl rfl [(203, _), (207, _)] (fun h => And.intro (.inr ⟨_, rfl, h⟩) (And.intro (.inr ⟨_, rfl, h⟩) (trivial))) (fun h => (OpJ.leq rfl rfl rfl)) ?_
              refine AList.g 209 200 rfl rfl rfl rfl rfl rfl rfl [(202, _), (208, _)] (fun h => And.intro (.inr ⟨_, rfl, h⟩) (And.intro (.inr ⟨_, rfl, h⟩) (trivial))) (fun h => (OpJ.neqBool rfl rfl rfl un4)) ?_
              refine AList.c 210 rfl rfl rfl (OpJ.or_ rfl rfl rfl ?_) ?_
              · first | (intro h; rw [h]; rfl) | (intro h; simp_all)
              refine AList.c 211 rfl rfl rfl (OpJ.move rfl rfl) ?_
              refine AList.g 212 211 rfl rfl rfl rfl rfl rfl rfl [(25, _)] (fun h => And.intro (.inl rfl) (trivial)) (fun h => (OpJ.move rfl rfl)) ?_
              refine AList.g 213 211 rfl rfl rfl rfl rfl rfl rfl [(212, _)] (fun h => And.intro (.inr ⟨_, rfl, h⟩) (trivial)) (fun h => (OpJ.eql rfl rfl rfl)) ?_
              refine AList.g 214 211 rfl rfl rfl rfl rfl rfl rfl [(23, _)] (fun h => And.intro (.inl rfl) (trivial)) (fun h => (OpJ.move rfl rfl)) ?_
              refine AList.g 215 211 rfl rfl rfl rfl rfl rfl rfl [(14, _)] (fun h => And.intro (.inl rfl) (trivial)) (fun h => (OpJ.move rfl rfl)) ?_
              refine AList.g 216 211 rfl rfl rfl rfl rfl rfl rfl [(21, _)] (fun h => And.intro (.inl rfl) (trivial)) (fun h => (OpJ.fieldAddr rfl rfl fd40_0 rfl)) ?_
              refine AList.g 217 211 rfl rfl rfl rfl rfl rfl rfl [(216, _)] (fun h => And.intro (.inr ⟨_, rfl, h⟩) (trivial)) (fun h => (OpJ.load (v := .p (.int .i64 lo)) rfl rfl ty3 rfl)) ?_
              refine AList.g 218 211 rfl rfl rfl rfl rfl rfl rfl [(215, _), (217, _)] (fun h => And.intro (.inr ⟨_, rfl, h⟩) (And.intro (.inr ⟨_, rfl, h⟩) (trivial))) (fun h => (OpJ.sub_ rfl rfl rfl (i64ok (by omega)))) ?_
              refine AList.g 219 211 rfl rfl rfl rfl rfl rfl rfl [(214, _), (218, _)] (fun h => And.intro (.inr ⟨_, rfl, h⟩) (And.intro (.inr ⟨_, rfl, h⟩) (trivial))) (fun h => (OpJ.gtr rfl rfl rfl)) ?_
              refine AList.g 220 211 rfl rfl rfl rfl rfl rfl rfl [(213, _), (219, _)] (fun h => And.intro (.inr ⟨_, rfl, h⟩) (And.intro (.inr ⟨_, rfl, h⟩) (trivial))) (fun h => (OpJ.neqBool rfl rfl rfl un4)) ?_
              refine AList.c 221 rfl rfl rfl (OpJ.or_ rfl rfl rfl ?_) ?_
              · first | (intro h; rw [h]; rfl) | (intro h; simp_all)
              refine AList.nil ?_
              refine AWp.cond _ rfl (fun hc9 => ?_) (fun hc9 => ?_)
              · skip
                exfalso
                unfold metN sxG oxG at hc9
                dsimp only at hc9
                split at hc9
                · simp at hc9; omega
                · split at hc9
                  · simp at hc9; omega
                  · simp at hc9; omega
              · skip
                refine AWp.skip ?_
                refine AWp.seq ?_
                refine AWp.seq ?_
                refine AWp.region ?_
                refine AList.c 222 rfl rfl rfl (OpJ.move rfl rfl) ?_
                refine AList.c 223 rfl rfl rfl (OpJ.eql rfl rfl rfl) ?_
                refine AList.c 224 rfl rfl rfl (OpJ.move rfl rfl) ?_
                refine AList.g 225 224 rfl rfl rfl rfl rfl rfl rfl [(30, _)] (fun h => And.intro (.inl rfl) (trivial)) (fun h => (OpJ.move rfl rfl)) ?_
                refine AList.g 226 224 rfl rfl rfl rfl rfl rfl rfl [(23, _)] (fun h => And.intro (.inl rfl) (trivial)) (fun h => (OpJ.move rfl rfl)) ?_
                refine AList.g 227 224 rfl rfl rfl rfl rfl rfl rfl [(225, _), (226, _)] (fun h => And.intro (.inr ⟨_, rfl, h⟩) (And.intro (.inr ⟨_, rfl, h⟩) (trivial))) (fun h => (OpJ.lss rfl rfl rfl)) ?_
                refine AList.c 228 rfl rfl rfl (OpJ.and_ rfl rfl rfl ?_) ?_
                · first | (intro h; rw [h]; rfl) | (intro h; simp_all)
                refine AList.c 229 rfl rfl rfl (OpJ.move rfl rfl) ?_
                refine AList.g 230 229 rfl rfl rfl rfl rfl rfl rfl [(25, _)] (fun h => And.intro (.inl rfl) (trivial)) (fun h => (OpJ.move rfl rfl)) ?_
                refine AList.g 231 229 rfl rfl rfl rfl rfl rfl rfl [(230, _)] (fun h => And.intro (.inr ⟨_, rfl, h⟩) (trivial)) (fun h => (OpJ.eql rfl rfl rfl)) ?_
                refine AList.g 232 229 rfl rfl rfl rfl rfl rfl rfl [(231, _)] (fun h => And.intro (.inr ⟨_, rfl, h⟩) (trivial)) (fun h => (OpJ.move rfl rfl)) ?_
                refine AList.g 233 232 rfl rfl rfl rfl rfl rfl rfl [(30, _)] (fun h => And.intro (.inl rfl) (trivial)) (fun h => (OpJ.move rfl rfl)) ?_
                refine AList.g 234 232 rfl rfl rfl rfl rfl rfl rfl [(23, _)] (fun h => And.intro (.inl rfl) (trivial)) (fun h => (OpJ.move rfl rfl)) ?_
                refine AList.g 235 232 rfl rfl rfl rfl rfl rfl rfl [(233, _), (234, _)] (fun h => And.intro (.inr ⟨_, rfl, h⟩) (And.intro (.inr ⟨_, rfl, h⟩) (trivial))) (fun h => (OpJ.geq rfl rfl rfl)) ?_
                refine AList.g 236 229 rfl rfl rfl rfl rfl rfl rfl [(232, _), (235, _)] (fun h => And.intro (.inr ⟨_, rfl, h⟩) (And.intro (.inl rfl) (trivial))) (fun h => (OpJ.and_ rfl rfl rfl ?_)) ?_
                · first | (intro h; rw [h]; rfl) | (intro h; simp_all)
                refine AList.c 237 rfl rfl rfl (OpJ.or_ rfl rfl rfl ?_) ?_
                · first | (intro h; rw [h]; rfl) | (intro h; simp_all)
                refine AList.nil ?_
                refine AWp.cond _ rfl (fun hc10 => ?_) (fun hc10 => ?_)
                · skip
                  exfalso
                  unfold metN sxG oxG at hc10
                  dsimp only at hc10
                  split at hc10
                  · simp at hc10; omega
                  · split at hc10
                    · simp at hc10
                    · simp at hc10; omega
                · skip
                  refine AWp.skip ?_
                  refine AWp.seq ?_
                  refine AWp.region ?_
                  refine AList.c 238 rfl rfl rfl (OpJ.move rfl rfl) ?_
                  refine AList.c 239 rfl rfl rfl (OpJ.move rfl rfl) ?_
                  refine AList.c 240 rfl rfl rfl (OpJ.move rfl rfl) ?_
                  refine AList.c 241 rfl rfl rfl (OpJ.fieldAddr rfl rfl fd40_1 rfl) ?_
                  refine AList.c 242 rfl rfl rfl (OpJ.load (v := .p (.int .i64 hi)) rfl rfl ty3 rfl) ?_
                  refine AList.c 243 rfl rfl rfl (OpJ.sub_ rfl rfl rfl (i64ok ?_)) ?_
                  · omega
                  refine AList.c 244 rfl rfl rfl (OpJ.sub_ rfl rfl rfl (i64ok ?_)) ?_
                  · omega
                  refine AList.c 245 rfl rfl rfl (OpJ.max2 rfl rfl rfl) ?_
                  refine AList.c 246 rfl rfl rfl (OpJ.eql rfl rfl rfl) ?_
                  refine AList.c 247 rfl rfl rfl (OpJ.move rfl rfl) ?_
                  refine AList.g 248 247 rfl rfl rfl rfl rfl rfl rfl [(29, _)] (fun h => And.intro (.inl rfl) (trivial)) (fun h => (OpJ.move rfl rfl)) ?_
                  refine AList.g 249 247 rfl rfl rfl rfl rfl rfl rfl [(248, _)] (fun h => And.intro (.inr ⟨_, rfl, h⟩) (trivial)) (fun h => (OpJ.eql rfl rfl rfl)) ?_
                  refine AList.g 250 247 rfl rfl rfl rfl rfl rfl rfl [(28, _)] (fun h => And.intro (.inl rfl) (trivial)) (fun h => (OpJ.move rfl rfl)) ?_
                  refine AList.g 251 247 rfl rfl rfl rfl rfl rfl rfl [(250, _)] (fun h => And.intro (.inr ⟨_, rfl, h⟩) (trivial)) (fun h => (OpJ.eql rfl rfl rfl)) ?_
                  refine AList.g 252 247 rfl rfl rfl rfl rfl rfl rfl [(249, _), (251, _)] (fun h => And.intro (.inr ⟨_, rfl, h⟩) (And.intro (.inr ⟨_, rfl, h⟩) (trivial))) (fun h => (OpJ.eqBool rfl rfl rfl un4)) ?_
                  refine AList.c 253 rfl rfl rfl (OpJ.and_ rfl rfl rfl ?_) ?_
                  · first | (intro h; rw [h]; rfl) | (intro h; simp_all)
                  refine AList.c 254 rfl rfl rfl (OpJ.move rfl rfl) ?_
                  refine AList.g 255 254 rfl rfl rfl rfl rfl rfl rfl [] (fun h => trivial) (fun h => (OpJ.callP (awake06_ok) rfl rfl rfl rfl rf12)) ?_
                  refine AList.c 256 rfl rfl rfl (OpJ.and_ rfl rfl rfl ?_) ?_
                  · first | (intro h; rw [h]; rfl) | (intro h; simp_all)
                  refine AList.c 10 rfl rfl rfl (OpJ.assign rfl rfl) ?_
                  refine AList.nil ?_
                  refine AWp.ret ?_
                  refine Fin.oneE rfl rfl ?_
                  rw [most_sx]
                  unfold sxG oxG
                  dsimp only
                  by_cases h : (N : Int) - ((al : Int) - hi) > 0
                  · have h2 : (al : Int) - hi < (N : Int) := by omega
                    simp [h]
                    refine ⟨by rw [if_pos h2]; omega, ?_⟩
                    rw [decide_eq_false (show ¬ (N : Int) ≤ (al : Int) - hi by omega), decide_eq_true h2, decide_eq_false (show ¬ (N : Int) - ((al : Int) - hi) = 0 by omega)]
                    rfl
                  · have h2 : ¬ (al : Int) - hi < (N : Int) := by omega
                    simp [h]
                    refine ⟨by rw [if_neg h2]; omega, ?_⟩
                    rw [decide_eq_true (show (N : Int) ≤ (al : Int) - hi by omega), decide_eq_false h2]
                    rfl
theorem u16c_of {el : List PV} (h : TyL [.leaf (.int .u16)] el) : ∃ n : { n : Nat // n ≤ 65535 }, el = u16c n.1 := by
  obtain ⟨n, rfl, h1, h2⟩ := kint_of .u16 h
  have h3 : (0 : Int) ≤ n := h1
  have h4 : n ≤ (65535 : Int) := h2
  exact ⟨⟨n.toNat, by omega⟩, by unfold u16c; rw [Int.toNat_of_nonneg h3]⟩
theorem u16s_of {x : List PV} (h : TyL [.sl [.leaf (.int .u16)]] x) : ∃ l : List Nat, x = [u16sV l] ∧ l.length ≤ bigN ∧ ∀ n ∈ l, n ≤ 65535 := by
  obtain ⟨l, e1, e2⟩ := sl_of (f := fun n : { n : Nat // n ≤ 65535 } => u16c n.1) (fun el => u16c_of) h
  refine ⟨l.map (·.1), ?_, by rw [List.length_map]; exact e2, fun n hn => ?_⟩
  · rw [e1]
    unfold u16sV
    rw [List.length_map, List.flatMap_map]
  · obtain ⟨y, _, rfl⟩ := List.mem_map.1 hn
    exact y.2
theorem u16_of {x : List PV} (h : TyL [.leaf (.int .u16)] x) : ∃ n : Nat, x = [.int .u16 (n : Int)] ∧ n ≤ 65535 := by
  obtain ⟨n, h1⟩ := u16c_of h
  exact ⟨n.1, h1, n.2⟩
theorem topGood_law {x0 x1 x2 x3 x4 : List PV} (h0 : TyL [.sl [.leaf (.int .i64)], .leaf (.int .i64), .leaf (.int .i64), .leaf (.int .i64)] x0) (h1 : TyL [.leaf (.int .u8)] x1) (h2 : TyL [.leaf (.int .u8)] x2) (h3 : TyL [.sl [.leaf (.int .u16)]] x3) (h4 : TyL [.leaf (.int .u16)] x4) : Pure Tryd.prog 4 [argP true x0, argP false x1, argP false x2, argP false x3, argP false x4] (.bool true) := by
  obtain ⟨c, rfl, hc⟩ := crt_of h0
  obtain ⟨w1, rfl, hw1⟩ := u8_of h1
  obtain ⟨w2, rfl, hw2⟩ := u8_of h2
  obtain ⟨l, rfl, hl, hl2⟩ := u16s_of h3
  obtain ⟨a, rfl, ha⟩ := u16_of h4
  exact topGood_main c w1 w2 l a hc hl hw1 hw2 hl2 ha
end Go.Proofs.YtofenmailjdehaaDoor
