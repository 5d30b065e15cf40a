/-
  A truth more.
-/
import Derived.Test.YtofenmailjdehaaDoorXrFacts
import Derived.Test.YtofenmailjdehaaDoorXr3
import Derived.Test.YtofenmailjdehaaDoorXrS
import Derived.Test.YtofenmailjdehaaDoorAfU
set_option linter.unusedVariables false
set_option maxRecDepth 100000
set_option maxHeartbeats 4000000
set_option linter.unusedSimpArgs false
namespace Go.Proofs.YtofenmailjdehaaDoor
open Go.AF
theorem add_ok (c : Crt) (p : Pic) (a b : Nat) (hc : crB c = true) (hp : PicB p) (hn : p.n < 65536) (ha : a < 256) (hb : b < 256) : ACalls Tryd.prog 43 [.ptr 0 0, .p (crV c), .p (.agg [.int .i64 (a : Int), .int .i64 (b : Int)])] [.cells (List.map V.p (picL p)) 75] fun v H' => H' = [.cells (List.map V.p (picL (picA c p (a, b)))) 75] := by
  obtain ⟨⟨hR1, hR⟩, ⟨hC1, hC⟩, _⟩ := crB_of hc
  obtain ⟨C, hCn⟩ : ∃ n : Nat, c.cols = n := ⟨c.cols.toNat, by omega⟩
  have hCt : c.cols.toNat = C := by omega
  have hmn := manyN_B hc a b
  obtain ⟨hq1, hq2, hq3, hq4⟩ := picS_B hc hp ha hb
  have hfe := picA_eq c p a b
  have hsp := picS_sp c p a b (manyN c a b)
  have hps := hp.sp
  refine ACalls.start (N := 143) Tryd.func43 rfl rfl (Nat.le_of_ble_eq_true rfl) ?_
  refine AWp.seq ?_
  refine AWp.region ?_
  refine AList.c 4 rfl rfl rfl (OpJ.boxImm rfl rfl rfl) ?_
  refine AList.c 5 rfl rfl rfl (OpJ.boxImm rfl rfl rfl) ?_
  refine AList.nil ?_
  refine AWp.seq ?_
  refine AWp.region ?_
  refine AList.c 10 rfl rfl rfl (OpJ.load (v := .p (.agg [.int .i64 (a : Int), .int .i64 (b : Int)])) rfl rfl ty120 rfl) ?_
  refine AList.c 11 rfl rfl rfl (OpJ.load (v := .p (crV c)) rfl rfl ty24 rfl) ?_
  refine AList.c 12 rfl rfl rfl (OpJ.callP (many_ok c a b hc ha hb) rfl rfl rfl rfl rf70) ?_
  refine AList.c 6 rfl rfl rfl (OpJ.assign rfl rfl) ?_
  refine AList.nil ?_
  refine AWp.seq ?_
  refine AWp.seq ?_
  refine AWp.region ?_
  refine AList.c 13 rfl rfl rfl (OpJ.move rfl rfl) ?_
  refine AList.c 14 rfl rfl rfl (OpJ.nilCheck rfl rfl) ?_
  refine AList.c 15 rfl rfl rfl (OpJ.fieldAddr rfl rfl fd75_3 rfl) ?_
  refine AList.c 16 rfl rfl rfl (OpJ.loadCell (k := 70) (v := (.p (.int .i64 (p.n : Int)))) rfl rfl ty3 rfl rfl (picL_n _)) ?_
  refine AList.c 17 rfl rfl rfl (OpJ.add (m := ((p.n + 1 : Nat) : Int)) rfl rfl rfl ((i64ok ?_).trans ?_)) ?_
  · omega
  · rfl
  refine AList.c 18 rfl rfl rfl (OpJ.nilCheck rfl rfl) ?_
  refine AList.c 19 rfl rfl rfl (OpJ.fieldAddr rfl rfl fd75_3 rfl) ?_
  refine AList.c0 rfl rfl (OpJ.storeAt (k := 70) (cs2 := (List.map V.p (picL (p.sN (p.n + 1))))) rfl rfl rfl rfl rfl rfl ty3 rfl rfl rfl (by rw [picL_len]; decide) (picL_setn p (p.n + 1)) rfl) ?_
  refine AList.nil ?_
  refine AWp.seq ?_
  refine AWp.region ?_
  refine AList.c 20 rfl rfl rfl (OpJ.move rfl rfl) ?_
  refine AList.c 21 rfl rfl rfl (OpJ.nilCheck rfl rfl) ?_
  refine AList.c 22 rfl rfl rfl (OpJ.fieldAddr rfl rfl fd75_3 rfl) ?_
  refine AList.c 23 rfl rfl rfl (OpJ.loadCell (k := 70) (v := (.p (.int .i64 ((p.n + 1 : Nat) : Int)))) rfl rfl ty3 rfl rfl (picL_n (p.sN (p.n + 1)))) ?_
  refine AList.c 24 rfl rfl rfl (OpJ.eql rfl rfl rfl) ?_
  refine AList.nil ?_
  refine AWp.cond _ rfl (fun hc0 => ?_) (fun hc0 => ?_)
  · skip
    have hn0 : p.n = 0 := by have h := of_decide_eq_true hc0; omega
    refine AWp.seq ?_
    refine AWp.region ?_
    refine AList.c 25 rfl rfl rfl (OpJ.move rfl rfl) ?_
    refine AList.c 26 rfl rfl rfl (OpJ.move rfl rfl) ?_
    refine AList.c 27 rfl rfl rfl (OpJ.move rfl rfl) ?_
    refine AList.c 28 rfl rfl rfl (OpJ.build rfl bd40 rfl rfl) ?_
    refine AList.c 29 rfl rfl rfl (OpJ.nilCheck rfl rfl) ?_
    refine AList.c 30 rfl rfl rfl (OpJ.fieldAddr rfl rfl fd75_1 rfl) ?_
    refine AList.c0 rfl rfl (OpJ.store (H' := [.cells (List.map V.p (picL (((p.sN (p.n + 1)).sLo (manyN c a b)).sHi (manyN c a b)))) 75]) rfl rfl rfl rfl rfl ty40 rfl rfl) ?_
    refine AList.nil ?_
    refine AWp.regionDrawG 10 0 [0] [([], false), ([], false), ([], false), ([], false), ([], false), ([], false), ([], false), ([], false), ([], false), ([0], true)] mixed (by kernel_rfl) (by decide) (by kernel_rfl) rfl rfl ?_
    refine AQG.cons 31 rfl rfl rfl (fun _ => (OpJ.move rfl rfl)) rfl ?_
    refine AQG.cons 32 rfl rfl rfl (fun _ => (OpJ.move rfl rfl)) rfl ?_
    refine AQG.cons 33 rfl rfl rfl (fun _ => (OpJ.fieldAddr rfl rfl fd120_0 rfl)) rfl ?_
    refine AQG.cons 34 rfl rfl rfl (fun _ => (OpJ.load (v := .p (.int .i64 (a : Int))) rfl rfl ty118 rfl)) rfl ?_
    refine AQG.cons 35 rfl rfl rfl (fun _ => (OpJ.fieldAddr rfl rfl fd120_1 rfl)) rfl ?_
    refine AQG.cons 36 rfl rfl rfl (fun _ => (OpJ.load (v := .p (.int .i64 (b : Int))) rfl rfl ty118 rfl)) rfl ?_
    refine AQG.cons 37 rfl rfl rfl (fun _ => (OpJ.nilCheck rfl rfl)) rfl ?_
    refine AQG.cons 38 rfl rfl rfl (fun _ => (OpJ.fieldAddr rfl rfl fd75_0 rfl)) rfl ?_
    refine AQG.cons 39 rfl rfl rfl (fun _ => (OpJ.fieldAddr rfl rfl fd35_2 rfl)) rfl ?_
    refine AQG.put (blk := .cells (List.map V.p (picL ((((p.sN (p.n + 1)).sLo (manyN c a b)).sHi (manyN c a b)).sSr a))) 75) 0 rfl rfl rfl rfl (fun _ => (OpJ.storeAt (k := 2) (cs2 := (List.map V.p (picL ((((p.sN (p.n + 1)).sLo (manyN c a b)).sHi (manyN c a b)).sSr a)))) rfl rfl rfl rfl rfl rfl ty3 rfl rfl rfl (by rw [picL_len]; decide) rfl rfl)) rfl (congrArg (fun z => Blk.cells z 75) (renL_pure _ _)) ?_
    refine AQG.nil ?_
    refine AList.c 40 rfl rfl rfl (OpJ.nilCheck rfl rfl) ?_
    refine AList.c 41 rfl rfl rfl (OpJ.fieldAddr rfl rfl fd75_0 rfl) ?_
    refine AList.c 42 rfl rfl rfl (OpJ.fieldAddr rfl rfl fd35_3 rfl) ?_
    refine AList.c0 rfl rfl (OpJ.storeAt (k := 3) (cs2 := (List.map V.p (picL (((((p.sN (p.n + 1)).sLo (manyN c a b)).sHi (manyN c a b)).sSr a).sSc b)))) rfl rfl rfl rfl rfl rfl ty3 rfl rfl rfl (by rw [picL_len]; decide) rfl rfl) ?_
    refine AList.nil ?_
    refine AWp.seq ?_
    refine AWp.norm [0] [(0, _), (4, _), (5, _), (6, _)] [.cells (List.map V.p (picL (picS c p a b))) 75] rfl (by repeat (first | exact Sub.nil | refine Sub.cons rfl ?_)) (by show [Blk.cells (renL _ (List.map V.p _)) _] = _; rw [renL_pure]; unfold picS; first | rw [if_pos hn0] | rw [if_neg hn0]) ?_
    obtain ⟨q, hq⟩ : ∃ q, picS c p a b = q := ⟨_, rfl⟩
    rw [hq] at hq1 hq2 hq3 hq4 hfe hsp ⊢
    have ho1 : q.cr ||| a < 256 := Nat.or_lt_two_pow (n := 8) hq1 ha
    have ho2 : q.cc ||| b < 256 := Nat.or_lt_two_pow (n := 8) hq2 hb
    refine AWp.regionDrawG 22 0 [0] [([], false), ([], false), ([], false), ([], false), ([], false), ([], false), ([], false), ([0], false), ([], false), ([], false), ([], false), ([], false), ([0], false), ([], false), ([], false), ([], false), ([], false), ([], false), ([], false), ([], false), ([], false), ([0], true)] mixed (by kernel_rfl) (by decide) (by kernel_rfl) rfl rfl ?_
    refine AQG.cons 44 rfl rfl rfl (fun _ => (OpJ.move rfl rfl)) rfl ?_
    refine AQG.cons 45 rfl rfl rfl (fun _ => (OpJ.move rfl rfl)) rfl ?_
    refine AQG.cons 46 rfl rfl rfl (fun _ => (OpJ.move rfl rfl)) rfl ?_
    refine AQG.cons 47 rfl rfl rfl (fun _ => (OpJ.move rfl rfl)) rfl ?_
    refine AQG.cons 48 rfl rfl rfl (fun _ => (OpJ.nilCheck rfl rfl)) rfl ?_
    refine AQG.cons 49 rfl rfl rfl (fun _ => (OpJ.fieldAddr rfl rfl fd75_1 rfl)) rfl ?_
    refine AQG.cons 50 rfl rfl rfl (fun _ => (OpJ.fieldAddr rfl rfl fd40_0 rfl)) rfl ?_
    refine AQG.cons 51 rfl rfl rfl (fun _ => (OpJ.loadCell (k := 4) (v := (.p (.int .i64 q.lo))) rfl rfl ty3 rfl rfl rfl)) rfl ?_
    refine AQG.cons 52 rfl rfl rfl (fun _ => (OpJ.move rfl rfl)) rfl ?_
    refine AQG.cons 53 rfl rfl rfl (fun _ => (OpJ.nilCheck rfl rfl)) rfl ?_
    refine AQG.cons 54 rfl rfl rfl (fun _ => (OpJ.fieldAddr rfl rfl fd75_1 rfl)) rfl ?_
    refine AQG.cons 55 rfl rfl rfl (fun _ => (OpJ.fieldAddr rfl rfl fd40_1 rfl)) rfl ?_
    refine AQG.cons 56 rfl rfl rfl (fun _ => (OpJ.loadCell (k := 5) (v := (.p (.int .i64 q.hi))) rfl rfl ty3 rfl rfl rfl)) rfl ?_
    refine AQG.cons 57 rfl rfl rfl (fun _ => (OpJ.buildImm rfl slz22 (by decide) rfl rfl rfl)) rfl ?_
    refine AQG.cons 58 rfl rfl rfl (fun _ => (OpJ.callP (ends_ok (manyN c a b) [q.lo, q.hi] (by unfold bigN; show 2 ≤ _; omega)) rfl rfl rfl rfl rf71)) rfl ?_
    refine AQG.cons 43 rfl rfl rfl (fun _ => (OpJ.move rfl rfl)) rfl ?_
    refine AQG.cons 59 rfl rfl rfl (fun _ => (OpJ.extract rfl rfl rfl)) rfl ?_
    refine AQG.cons 60 rfl rfl rfl (fun _ => (OpJ.extract rfl rfl rfl)) rfl ?_
    refine AQG.cons 61 rfl rfl rfl (fun _ => (OpJ.nilCheck rfl rfl)) rfl ?_
    refine AQG.cons 62 rfl rfl rfl (fun _ => (OpJ.fieldAddr rfl rfl fd75_1 rfl)) rfl ?_
    refine AQG.cons 63 rfl rfl rfl (fun _ => (OpJ.fieldAddr rfl rfl fd40_0 rfl)) rfl ?_
    refine AQG.put (blk := .cells (List.map V.p (picL (q.sLo (min (min (manyN c a b) q.lo) q.hi)))) 75) 0 rfl rfl rfl rfl (fun _ => (OpJ.storeAt (k := 4) (cs2 := (List.map V.p (picL (q.sLo (min (min (manyN c a b) q.lo) q.hi))))) rfl rfl rfl rfl rfl rfl ty3 rfl rfl rfl (by rw [picL_len]; decide) rfl rfl)) rfl (congrArg (fun z => Blk.cells z 75) (renL_pure _ _)) ?_
    refine AQG.nil ?_
    refine AList.c 64 rfl rfl rfl (OpJ.nilCheck rfl rfl) ?_
    refine AList.c 65 rfl rfl rfl (OpJ.fieldAddr rfl rfl fd75_1 rfl) ?_
    refine AList.c 66 rfl rfl rfl (OpJ.fieldAddr rfl rfl fd40_1 rfl) ?_
    refine AList.c0 rfl rfl (OpJ.storeAt (k := 5) (cs2 := (List.map V.p (picL ((q.sLo (min (min (manyN c a b) q.lo) q.hi)).sHi (max (max (manyN c a b) q.lo) q.hi))))) rfl rfl rfl rfl rfl rfl ty3 rfl rfl rfl (by rw [picL_len]; decide) rfl rfl) ?_
    refine AList.nil ?_
    refine AWp.seq ?_
    refine AWp.regionDraw 11 mixed (by kernel_rfl) (by decide) ?_
    refine AQuiet.cons 67 rfl rfl rfl (OpJ.move rfl rfl) ?_
    refine AQuiet.cons 68 rfl rfl rfl (OpJ.nilCheck rfl rfl) ?_
    refine AQuiet.cons 69 rfl rfl rfl (OpJ.fieldAddr rfl rfl fd75_0 rfl) ?_
    refine AQuiet.cons 70 rfl rfl rfl (OpJ.fieldAddr rfl rfl fd35_0 rfl) ?_
    refine AQuiet.cons 71 rfl rfl rfl (OpJ.loadCell (k := 0) (v := (.p (.int .i64 (q.cr : Int)))) rfl rfl ty3 rfl rfl rfl) ?_
    refine AQuiet.cons 72 rfl rfl rfl (OpJ.fieldAddr rfl rfl fd120_0 rfl) ?_
    refine AQuiet.cons 73 rfl rfl rfl (OpJ.load (v := .p (.int .i64 (a : Int))) rfl rfl ty118 rfl) ?_
    refine AQuiet.cons 74 rfl rfl rfl (OpJ.orN q.cr a rfl rfl rfl (by show _ ≤ (9223372036854775807 : Int); omega) (by show _ ≤ (9223372036854775807 : Int); omega) (by show _ ≤ (9223372036854775807 : Int); omega)) ?_
    refine AQuiet.cons 75 rfl rfl rfl (OpJ.nilCheck rfl rfl) ?_
    refine AQuiet.cons 76 rfl rfl rfl (OpJ.fieldAddr rfl rfl fd75_0 rfl) ?_
    refine AQuiet.cons 77 rfl rfl rfl (OpJ.fieldAddr rfl rfl fd35_0 rfl) ?_
    refine AQuiet.nil ?_
    refine AList.c0 rfl rfl (OpJ.storeAt (k := 0) (cs2 := (List.map V.p (picL (((q.sLo (min (min (manyN c a b) q.lo) q.hi)).sHi (max (max (manyN c a b) q.lo) q.hi)).sCr (q.cr ||| a))))) rfl rfl rfl rfl rfl rfl ty3 rfl rfl rfl (by rw [picL_len]; decide) rfl rfl) ?_
    refine AList.nil ?_
    refine AWp.seq ?_
    refine AWp.regionDraw 11 mixed (by kernel_rfl) (by decide) ?_
    refine AQuiet.cons 78 rfl rfl rfl (OpJ.move rfl rfl) ?_
    refine AQuiet.cons 79 rfl rfl rfl (OpJ.nilCheck rfl rfl) ?_
    refine AQuiet.cons 80 rfl rfl rfl (OpJ.fieldAddr rfl rfl fd75_0 rfl) ?_
    refine AQuiet.cons 81 rfl rfl rfl (OpJ.fieldAddr rfl rfl fd35_1 rfl) ?_
    refine AQuiet.cons 82 rfl rfl rfl (OpJ.loadCell (k := 1) (v := (.p (.int .i64 (q.cc : Int)))) rfl rfl ty3 rfl rfl rfl) ?_
    refine AQuiet.cons 83 rfl rfl rfl (OpJ.fieldAddr rfl rfl fd120_1 rfl) ?_
    refine AQuiet.cons 84 rfl rfl rfl (OpJ.load (v := .p (.int .i64 (b : Int))) rfl rfl ty118 rfl) ?_
    refine AQuiet.cons 85 rfl rfl rfl (OpJ.orN q.cc b rfl rfl rfl (by show _ ≤ (9223372036854775807 : Int); omega) (by show _ ≤ (9223372036854775807 : Int); omega) (by show _ ≤ (9223372036854775807 : Int); omega)) ?_
    refine AQuiet.cons 86 rfl rfl rfl (OpJ.nilCheck rfl rfl) ?_
    refine AQuiet.cons 87 rfl rfl rfl (OpJ.fieldAddr rfl rfl fd75_0 rfl) ?_
    refine AQuiet.cons 88 rfl rfl rfl (OpJ.fieldAddr rfl rfl fd35_1 rfl) ?_
    refine AQuiet.nil ?_
    refine AList.c0 rfl rfl (OpJ.storeAt (k := 1) (cs2 := (List.map V.p (picL ((((q.sLo (min (min (manyN c a b) q.lo) q.hi)).sHi (max (max (manyN c a b) q.lo) q.hi)).sCr (q.cr ||| a)).sCc (q.cc ||| b))))) rfl rfl rfl rfl rfl rfl ty3 rfl rfl rfl (by rw [picL_len]; decide) rfl rfl) ?_
    refine AList.nil ?_
    refine AWp.seq ?_
    refine AWp.regionDraw 11 mixed (by kernel_rfl) (by decide) ?_
    refine AQuiet.cons 89 rfl rfl rfl (OpJ.move rfl rfl) ?_
    refine AQuiet.cons 90 rfl rfl rfl (OpJ.nilCheck rfl rfl) ?_
    refine AQuiet.cons 91 rfl rfl rfl (OpJ.fieldAddr rfl rfl fd75_0 rfl) ?_
    refine AQuiet.cons 92 rfl rfl rfl (OpJ.fieldAddr rfl rfl fd35_2 rfl) ?_
    refine AQuiet.cons 93 rfl rfl rfl (OpJ.loadCell (k := 2) (v := (.p (.int .i64 (q.sr : Int)))) rfl rfl ty3 rfl rfl rfl) ?_
    refine AQuiet.cons 94 rfl rfl rfl (OpJ.fieldAddr rfl rfl fd120_0 rfl) ?_
    refine AQuiet.cons 95 rfl rfl rfl (OpJ.load (v := .p (.int .i64 (a : Int))) rfl rfl ty118 rfl) ?_
    refine AQuiet.cons 96 rfl rfl rfl (OpJ.andN q.sr a rfl rfl rfl (by first | (show _ ≤ (9223372036854775807 : Int); omega) | (show _ ≤ (4294967295 : Int); omega) | (show _ ≤ (18446744073709551615 : Int); omega)) (by first | decide | (show _ ≤ (9223372036854775807 : Int); omega) | (show _ ≤ (4294967295 : Int); omega) | (show _ ≤ (18446744073709551615 : Int); omega))) ?_
    refine AQuiet.cons 97 rfl rfl rfl (OpJ.nilCheck rfl rfl) ?_
    refine AQuiet.cons 98 rfl rfl rfl (OpJ.fieldAddr rfl rfl fd75_0 rfl) ?_
    refine AQuiet.cons 99 rfl rfl rfl (OpJ.fieldAddr rfl rfl fd35_2 rfl) ?_
    refine AQuiet.nil ?_
    refine AList.c0 rfl rfl (OpJ.storeAt (k := 2) (cs2 := (List.map V.p (picL (((((q.sLo (min (min (manyN c a b) q.lo) q.hi)).sHi (max (max (manyN c a b) q.lo) q.hi)).sCr (q.cr ||| a)).sCc (q.cc ||| b)).sSr (q.sr &&& a))))) rfl rfl rfl rfl rfl rfl ty3 rfl rfl rfl (by rw [picL_len]; decide) rfl rfl) ?_
    refine AList.nil ?_
    refine AWp.seq ?_
    refine AWp.regionDraw 11 mixed (by kernel_rfl) (by decide) ?_
    refine AQuiet.cons 100 rfl rfl rfl (OpJ.move rfl rfl) ?_
    refine AQuiet.cons 101 rfl rfl rfl (OpJ.nilCheck rfl rfl) ?_
    refine AQuiet.cons 102 rfl rfl rfl (OpJ.fieldAddr rfl rfl fd75_0 rfl) ?_
    refine AQuiet.cons 103 rfl rfl rfl (OpJ.fieldAddr rfl rfl fd35_3 rfl) ?_
    refine AQuiet.cons 104 rfl rfl rfl (OpJ.loadCell (k := 3) (v := (.p (.int .i64 (q.sc : Int)))) rfl rfl ty3 rfl rfl rfl) ?_
    refine AQuiet.cons 105 rfl rfl rfl (OpJ.fieldAddr rfl rfl fd120_1 rfl) ?_
    refine AQuiet.cons 106 rfl rfl rfl (OpJ.load (v := .p (.int .i64 (b : Int))) rfl rfl ty118 rfl) ?_
    refine AQuiet.cons 107 rfl rfl rfl (OpJ.andN q.sc b rfl rfl rfl (by first | (show _ ≤ (9223372036854775807 : Int); omega) | (show _ ≤ (4294967295 : Int); omega) | (show _ ≤ (18446744073709551615 : Int); omega)) (by first | decide | (show _ ≤ (9223372036854775807 : Int); omega) | (show _ ≤ (4294967295 : Int); omega) | (show _ ≤ (18446744073709551615 : Int); omega))) ?_
    refine AQuiet.cons 108 rfl rfl rfl (OpJ.nilCheck rfl rfl) ?_
    refine AQuiet.cons 109 rfl rfl rfl (OpJ.fieldAddr rfl rfl fd75_0 rfl) ?_
    refine AQuiet.cons 110 rfl rfl rfl (OpJ.fieldAddr rfl rfl fd35_3 rfl) ?_
    refine AQuiet.nil ?_
    refine AList.c0 rfl rfl (OpJ.storeAt (k := 3) (cs2 := (List.map V.p (picL ((((((q.sLo (min (min (manyN c a b) q.lo) q.hi)).sHi (max (max (manyN c a b) q.lo) q.hi)).sCr (q.cr ||| a)).sCc (q.cc ||| b)).sSr (q.sr &&& a)).sSc (q.sc &&& b))))) rfl rfl rfl rfl rfl rfl ty3 rfl rfl rfl (by rw [picL_len]; decide) rfl rfl) ?_
    refine AList.nil ?_
    refine AWp.seq ?_
    refine AWp.region ?_
    refine AList.c 111 rfl rfl rfl (OpJ.load (v := .p (.agg [.int .i64 (a : Int), .int .i64 (b : Int)])) rfl rfl ty120 rfl) ?_
    refine AList.c 112 rfl rfl rfl (OpJ.makeFunc rfl rfl rfl) ?_
    refine AList.c 7 rfl rfl rfl (OpJ.assign rfl rfl) ?_
    refine AList.nil ?_
    refine AWp.seq ?_
    obtain ⟨z, hz⟩ : ∃ z, picR q (manyN c a b) a b = z := ⟨_, rfl⟩
    have hzp : z.sp = p.sp := by rw [← hz]; exact hsp
    rw [hz, hCt] at hfe
    refine AWp.norm [0] [(0, _), (4, _), (5, _), (7, _)] [.cells (List.map V.p (picL (z.sSp (spG z.sp a b C 0 0)))) 75] rfl (by repeat (first | exact Sub.nil | refine Sub.cons rfl ?_)) (by show [Blk.cells (renL _ (List.map V.p _)) _] = _; rw [renL_pure, spG_0, ← hz]; rfl) ?_
    refine AWp.region ?_
    refine AList.c 113 rfl rfl rfl (OpJ.fieldAddr rfl rfl fd24_0 rfl) ?_
    refine AList.c 114 rfl rfl rfl (OpJ.load (v := .p (intsV c.rows)) rfl rfl ty22 rfl) ?_
    refine AList.c 115 rfl rfl rfl (OpJ.lenSlice rfl rfl sl22 rfl) ?_
    refine AList.c 116 rfl rfl rfl (OpJ.move rfl rfl) ?_
    refine AList.nil ?_
    refine AWp.toEnd ?_
    refine AWp.block ?_
    refine AWp.loopHL [0, 4, 7, 115] (fun g => [(116, .p (.int .i64 ((g : Nat) : Int)))]) (fun g => [.cells (List.map V.p (picL (z.sSp (spG z.sp a b C g 0)))) 75]) (fun g => g ≤ c.rows.length) (fun g => c.rows.length - g) 0 (Nat.zero_le _) (To.sub (Sub.chk (Sub.cons rfl (Sub.nil)))) (fun r hg => ?_)
    refine AWp.seq ?_
    refine AWp.region ?_
    refine AList.c 117 rfl rfl rfl (OpJ.lss rfl rfl rfl) ?_
    refine AList.nil ?_
    refine AWp.seq ?_
    refine AWp.cond _ rfl (fun hc1 => ?_) (fun hc1 => ?_)
    · skip
      have hk0 : r < c.rows.length := by have h := of_decide_eq_true hc1; omega
      refine AWp.skip ?_
      refine AWp.seq ?_
      refine AWp.block ?_
      refine AWp.seq ?_
      refine AWp.region ?_
      refine AList.c 118 rfl rfl rfl (OpJ.move rfl rfl) ?_
      refine AList.c 8 rfl rfl rfl (OpJ.assign rfl rfl) ?_
      refine AList.nil ?_
      refine AWp.seq ?_
      refine AWp.region ?_
      refine AList.c 119 rfl rfl rfl (OpJ.fieldAddr rfl rfl fd24_1 rfl) ?_
      refine AList.c 120 rfl rfl rfl (OpJ.load (v := .p (.int .i64 c.cols)) rfl rfl ty3 rfl) ?_
      refine AList.c 121 rfl rfl rfl (OpJ.move rfl rfl) ?_
      refine AList.nil ?_
      refine AWp.block ?_
      refine AWp.loopHL [0, 4, 7, 8, 115, 116, 117, 118, 119, 120, 142] (fun g => [(121, .p (.int .i64 ((g : Nat) : Int)))]) (fun g => [.cells (List.map V.p (picL (z.sSp (spG z.sp a b C r g)))) 75]) (fun g => g ≤ C) (fun g => C - g) 0 (Nat.zero_le _) (To.sub (Sub.chk (Sub.cons rfl (Sub.nil)))) (fun k hh => ?_)
      refine AWp.seq ?_
      refine AWp.region ?_
      refine AList.c 122 rfl rfl rfl (OpJ.lss rfl rfl rfl) ?_
      refine AList.nil ?_
      refine AWp.seq ?_
      refine AWp.cond _ rfl (fun hc2 => ?_) (fun hc2 => ?_)
      · skip
        have hj0 : k < C := by have h := of_decide_eq_true hc2; omega
        have hjj : r * 8 + k < 64 := by omega
        have hB := spG_B (n := (p.n : Int)) (sp := z.sp) (fun j => by rw [hzp]; exact hps j) a b C r k (r * 8 + k)
        refine AWp.skip ?_
        refine AWp.seq ?_
        refine AWp.block ?_
        refine AWp.seq ?_
        refine AWp.region ?_
        refine AList.c 123 rfl rfl rfl (OpJ.move rfl rfl) ?_
        refine AList.c 9 rfl rfl rfl (OpJ.assign rfl rfl) ?_
        refine AList.nil ?_
        refine AWp.seq ?_
        refine AWp.region ?_
        refine AList.c 124 rfl rfl rfl (OpJ.move rfl rfl) ?_
        refine AList.c 125 rfl rfl rfl (OpJ.move rfl rfl) ?_
        refine AList.c 126 rfl rfl rfl (OpJ.move rfl rfl) ?_
        refine AList.c 127 rfl rfl rfl (OpJ.callF (args := [.int .i64 (r : Int), .int .i64 (k : Int)]) (r := .bool (badB a b r k)) (⟨72, [.agg [.int .i64 (a : Int), .int .i64 (b : Int)], .int .i64 (r : Int), .int .i64 (k : Int)], rfl, rf72, xbad_ok a b r k ha hb⟩) rfl rfl rfl) ?_
        refine AList.nil ?_
        refine AWp.cond _ rfl (fun hc3 => ?_) (fun hc3 => ?_)
        · skip
          have hst := spG_T (sp := z.sp) (C := C) (show k < 8 by omega) hc3
          refine AWp.regionDraw 13 mixed (by kernel_rfl) (by decide) ?_
          refine AQuiet.cons 128 rfl rfl rfl (OpJ.move rfl rfl) ?_
          refine AQuiet.cons 129 rfl rfl rfl (OpJ.move rfl rfl) ?_
          refine AQuiet.cons 130 rfl rfl rfl (OpJ.move rfl rfl) ?_
          refine AQuiet.cons 131 rfl rfl rfl (OpJ.nilCheck rfl rfl) ?_
          refine AQuiet.cons 132 rfl rfl rfl (OpJ.fieldAddr rfl rfl fd75_2 rfl) ?_
          refine AQuiet.cons 133 rfl rfl rfl (OpJ.indexArrI rfl rfl rfl ar73 el73 (by omega)) ?_
          refine AQuiet.cons 134 rfl rfl rfl (OpJ.indexArrI rfl rfl rfl ar72 el72 (by omega)) ?_
          refine AQuiet.cons 135 rfl rfl rfl (OpJ.loadCell (k := (6 + (r * 8 + k))) (v := (.p (.int .i64 (spG z.sp a b C r k (r * 8 + k))))) rfl rfl ty3 rfl (by omega) (picL_sp _ hjj)) ?_
          refine AQuiet.cons 136 rfl rfl rfl (OpJ.add rfl rfl rfl (i64ok ?_)) ?_
          · omega
          refine AQuiet.cons 137 rfl rfl rfl (OpJ.nilCheck rfl rfl) ?_
          refine AQuiet.cons 138 rfl rfl rfl (OpJ.fieldAddr rfl rfl fd75_2 rfl) ?_
          refine AQuiet.cons 139 rfl rfl rfl (OpJ.indexArrI rfl rfl rfl ar73 el73 (by omega)) ?_
          refine AQuiet.cons 140 rfl rfl rfl (OpJ.indexArrI rfl rfl rfl ar72 el72 (by omega)) ?_
          refine AQuiet.nil ?_
          refine AList.c0 rfl rfl (OpJ.storeAt (k := (6 + (r * 8 + k))) (cs2 := (List.map V.p (picL (z.sSp (spG z.sp a b C r (k + 1)))))) rfl rfl rfl rfl rfl rfl ty3 rfl rfl (by omega) (by rw [picL_len]; omega) (by rw [picL_setsp _ hjj, hst]; rfl) rfl) ?_
          refine AList.nil ?_
          refine AWp.region ?_
          refine AList.c 141 rfl rfl rfl (OpJ.add rfl rfl rfl (i64ok ?_)) ?_
          · omega
          refine AList.c 121 rfl rfl rfl (OpJ.move rfl rfl) ?_
          refine AList.nil ?_
          refine ⟨k + 1, ?_, ?_, ?_⟩
          · omega
          · omega
          exact To.sub (Sub.cons rfl (by repeat (first | exact Sub.nil | refine Sub.cons rfl ?_)))
        · skip
          have hst := spG_F (sp := z.sp) (C := C) (show k < 8 by omega) hc3
          refine AWp.skip ?_
          refine AWp.region ?_
          refine AList.c 141 rfl rfl rfl (OpJ.add rfl rfl rfl (i64ok ?_)) ?_
          · omega
          refine AList.c 121 rfl rfl rfl (OpJ.move rfl rfl) ?_
          refine AList.nil ?_
          refine ⟨k + 1, ?_, ?_, ?_⟩
          · omega
          · omega
          rw [hst]
          exact To.sub (Sub.cons rfl (by repeat (first | exact Sub.nil | refine Sub.cons rfl ?_)))
      · skip
        obtain rfl : C = k := by have h := of_decide_eq_false hc2; omega
        rw [spG_row]
        refine AWp.exit ?_
        refine AWp.region ?_
        refine AList.c 142 rfl rfl rfl (OpJ.add rfl rfl rfl (i64ok ?_)) ?_
        · omega
        refine AList.c 116 rfl rfl rfl (OpJ.move rfl rfl) ?_
        refine AList.nil ?_
        refine ⟨r + 1, ?_, ?_, ?_⟩
        · omega
        · omega
        exact To.sub (Sub.cons rfl (by repeat (first | exact Sub.nil | refine Sub.cons rfl ?_)))
    · skip
      obtain rfl : r = c.rows.length := by have h := of_decide_eq_false hc1; omega
      refine AWp.exit ?_
      exact ⟨[], _, To.done [0] rfl Sub.nil (by show [Blk.cells (renL _ (List.map V.p _)) _] = _; rw [renL_pure, ← hfe]), .inl rfl, _, resV.none_ rfl, rfl⟩
  · skip
    have hn0 : ¬ p.n = 0 := by have h := of_decide_eq_false hc0; omega
    refine AWp.skip ?_
    refine AWp.seq ?_
    refine AWp.norm [0] [(0, _), (4, _), (5, _), (6, _)] [.cells (List.map V.p (picL (picS c p a b))) 75] rfl (by repeat (first | exact Sub.nil | refine Sub.cons rfl ?_)) (by show [Blk.cells (renL _ (List.map V.p _)) _] = _; rw [renL_pure]; unfold picS; first | rw [if_pos hn0] | rw [if_neg hn0]) ?_
    obtain ⟨q, hq⟩ : ∃ q, picS c p a b = q := ⟨_, rfl⟩
    rw [hq] at hq1 hq2 hq3 hq4 hfe hsp ⊢
    have ho1 : q.cr ||| a < 256 := Nat.or_lt_two_pow (n := 8) hq1 ha
    have ho2 : q.cc ||| b < 256 := Nat.or_lt_two_pow (n := 8) hq2 hb
    refine AWp.regionDrawG 22 0 [0] [([], false), ([], false), ([], false), ([], false), ([], false), ([], false), ([], false), ([0], false), ([], false), ([], false), ([], false), ([], false), ([0], false), ([], false), ([], false), ([], false), ([], false), ([], false), ([], false), ([], false), ([], false), ([0], true)] mixed (by kernel_rfl) (by decide) (by kernel_rfl) rfl rfl ?_
    refine AQG.cons 44 rfl rfl rfl (fun _ => (OpJ.move rfl rfl)) rfl ?_
    refine AQG.cons 45 rfl rfl rfl (fun _ => (OpJ.move rfl rfl)) rfl ?_
    refine AQG.cons 46 rfl rfl rfl (fun _ => (OpJ.move rfl rfl)) rfl ?_
    refine AQG.cons 47 rfl rfl rfl (fun _ => (OpJ.move rfl rfl)) rfl ?_
    refine AQG.cons 48 rfl rfl rfl (fun _ => (OpJ.nilCheck rfl rfl)) rfl ?_
    refine AQG.cons 49 rfl rfl rfl (fun _ => (OpJ.fieldAddr rfl rfl fd75_1 rfl)) rfl ?_
    refine AQG.cons 50 rfl rfl rfl (fun _ => (OpJ.fieldAddr rfl rfl fd40_0 rfl)) rfl ?_
    refine AQG.cons 51 rfl rfl rfl (fun _ => (OpJ.loadCell (k := 4) (v := (.p (.int .i64 q.lo))) rfl rfl ty3 rfl rfl rfl)) rfl ?_
    refine AQG.cons 52 rfl rfl rfl (fun _ => (OpJ.move rfl rfl)) rfl ?_
    refine AQG.cons 53 rfl rfl rfl (fun _ => (OpJ.nilCheck rfl rfl)) rfl ?_
    refine AQG.cons 54 rfl rfl rfl (fun _ => (OpJ.fieldAddr rfl rfl fd75_1 rfl)) rfl ?_
    refine AQG.cons 55 rfl rfl rfl (fun _ => (OpJ.fieldAddr rfl rfl fd40_1 rfl)) rfl ?_
    refine AQG.cons 56 rfl rfl rfl (fun _ => (OpJ.loadCell (k := 5) (v := (.p (.int .i64 q.hi))) rfl rfl ty3 rfl rfl rfl)) rfl ?_
    refine AQG.cons 57 rfl rfl rfl (fun _ => (OpJ.buildImm rfl slz22 (by decide) rfl rfl rfl)) rfl ?_
    refine AQG.cons 58 rfl rfl rfl (fun _ => (OpJ.callP (ends_ok (manyN c a b) [q.lo, q.hi] (by unfold bigN; show 2 ≤ _; omega)) rfl rfl rfl rfl rf71)) rfl ?_
    refine AQG.cons 43 rfl rfl rfl (fun _ => (OpJ.move rfl rfl)) rfl ?_
    refine AQG.cons 59 rfl rfl rfl (fun _ => (OpJ.extract rfl rfl rfl)) rfl ?_
    refine AQG.cons 60 rfl rfl rfl (fun _ => (OpJ.extract rfl rfl rfl)) rfl ?_
    refine AQG.cons 61 rfl rfl rfl (fun _ => (OpJ.nilCheck rfl rfl)) rfl ?_
    refine AQG.cons 62 rfl rfl rfl (fun _ => (OpJ.fieldAddr rfl rfl fd75_1 rfl)) rfl ?_
    refine AQG.cons 63 rfl rfl rfl (fun _ => (OpJ.fieldAddr rfl rfl fd40_0 rfl)) rfl ?_
    refine AQG.put (blk := .cells (List.map V.p (picL (q.sLo (min (min (manyN c a b) q.lo) q.hi)))) 75) 0 rfl rfl rfl rfl (fun _ => (OpJ.storeAt (k := 4) (cs2 := (List.map V.p (picL (q.sLo (min (min (manyN c a b) q.lo) q.hi))))) rfl rfl rfl rfl rfl rfl ty3 rfl rfl rfl (by rw [picL_len]; decide) rfl rfl)) rfl (congrArg (fun z => Blk.cells z 75) (renL_pure _ _)) ?_
    refine AQG.nil ?_
    refine AList.c 64 rfl rfl rfl (OpJ.nilCheck rfl rfl) ?_
    refine AList.c 65 rfl rfl rfl (OpJ.fieldAddr rfl rfl fd75_1 rfl) ?_
    refine AList.c 66 rfl rfl rfl (OpJ.fieldAddr rfl rfl fd40_1 rfl) ?_
    refine AList.c0 rfl rfl (OpJ.storeAt (k := 5) (cs2 := (List.map V.p (picL ((q.sLo (min (min (manyN c a b) q.lo) q.hi)).sHi (max (max (manyN c a b) q.lo) q.hi))))) rfl rfl rfl rfl rfl rfl ty3 rfl rfl rfl (by rw [picL_len]; decide) rfl rfl) ?_
    refine AList.nil ?_
    refine AWp.seq ?_
    refine AWp.regionDraw 11 mixed (by kernel_rfl) (by decide) ?_
    refine AQuiet.cons 67 rfl rfl rfl (OpJ.move rfl rfl) ?_
    refine AQuiet.cons 68 rfl rfl rfl (OpJ.nilCheck rfl rfl) ?_
    refine AQuiet.cons 69 rfl rfl rfl (OpJ.fieldAddr rfl rfl fd75_0 rfl) ?_
    refine AQuiet.cons 70 rfl rfl rfl (OpJ.fieldAddr rfl rfl fd35_0 rfl) ?_
    refine AQuiet.cons 71 rfl rfl rfl (OpJ.loadCell (k := 0) (v := (.p (.int .i64 (q.cr : Int)))) rfl rfl ty3 rfl rfl rfl) ?_
    refine AQuiet.cons 72 rfl rfl rfl (OpJ.fieldAddr rfl rfl fd120_0 rfl) ?_
    refine AQuiet.cons 73 rfl rfl rfl (OpJ.load (v := .p (.int .i64 (a : Int))) rfl rfl ty118 rfl) ?_
    refine AQuiet.cons 74 rfl rfl rfl (OpJ.orN q.cr a rfl rfl rfl (by show _ ≤ (9223372036854775807 : Int); omega) (by show _ ≤ (9223372036854775807 : Int); omega) (by show _ ≤ (9223372036854775807 : Int); omega)) ?_
    refine AQuiet.cons 75 rfl rfl rfl (OpJ.nilCheck rfl rfl) ?_
    refine AQuiet.cons 76 rfl rfl rfl (OpJ.fieldAddr rfl rfl fd75_0 rfl) ?_
    refine AQuiet.cons 77 rfl rfl rfl (OpJ.fieldAddr rfl rfl fd35_0 rfl) ?_
    refine AQuiet.nil ?_
    refine AList.c0 rfl rfl (OpJ.storeAt (k := 0) (cs2 := (List.map V.p (picL (((q.sLo (min (min (manyN c a b) q.lo) q.hi)).sHi (max (max (manyN c a b) q.lo) q.hi)).sCr (q.cr ||| a))))) rfl rfl rfl rfl rfl rfl ty3 rfl rfl rfl (by rw [picL_len]; decide) rfl rfl) ?_
    refine AList.nil ?_
    refine AWp.seq ?_
    refine AWp.regionDraw 11 mixed (by kernel_rfl) (by decide) ?_
    refine AQuiet.cons 78 rfl rfl rfl (OpJ.move rfl rfl) ?_
    refine AQuiet.cons 79 rfl rfl rfl (OpJ.nilCheck rfl rfl) ?_
    refine AQuiet.cons 80 rfl rfl rfl (OpJ.fieldAddr rfl rfl fd75_0 rfl) ?_
    refine AQuiet.cons 81 rfl rfl rfl (OpJ.fieldAddr rfl rfl fd35_1 rfl) ?_
    refine AQuiet.cons 82 rfl rfl rfl (OpJ.loadCell (k := 1) (v := (.p (.int .i64 (q.cc : Int)))) rfl rfl ty3 rfl rfl rfl) ?_
    refine AQuiet.cons 83 rfl rfl rfl (OpJ.fieldAddr rfl rfl fd120_1 rfl) ?_
    refine AQuiet.cons 84 rfl rfl rfl (OpJ.load (v := .p (.int .i64 (b : Int))) rfl rfl ty118 rfl) ?_
    refine AQuiet.cons 85 rfl rfl rfl (OpJ.orN q.cc b rfl rfl rfl (by show _ ≤ (9223372036854775807 : Int); omega) (by show _ ≤ (9223372036854775807 : Int); omega) (by show _ ≤ (9223372036854775807 : Int); omega)) ?_
    refine AQuiet.cons 86 rfl rfl rfl (OpJ.nilCheck rfl rfl) ?_
    refine AQuiet.cons 87 rfl rfl rfl (OpJ.fieldAddr rfl rfl fd75_0 rfl) ?_
    refine AQuiet.cons 88 rfl rfl rfl (OpJ.fieldAddr rfl rfl fd35_1 rfl) ?_
    refine AQuiet.nil ?_
    refine AList.c0 rfl rfl (OpJ.storeAt (k := 1) (cs2 := (List.map V.p (picL ((((q.sLo (min (min (manyN c a b) q.lo) q.hi)).sHi (max (max (manyN c a b) q.lo) q.hi)).sCr (q.cr ||| a)).sCc (q.cc ||| b))))) rfl rfl rfl rfl rfl rfl ty3 rfl rfl rfl (by rw [picL_len]; decide) rfl rfl) ?_
    refine AList.nil ?_
    refine AWp.seq ?_
    refine AWp.regionDraw 11 mixed (by kernel_rfl) (by decide) ?_
    refine AQuiet.cons 89 rfl rfl rfl (OpJ.move rfl rfl) ?_
    refine AQuiet.cons 90 rfl rfl rfl (OpJ.nilCheck rfl rfl) ?_
    refine AQuiet.cons 91 rfl rfl rfl (OpJ.fieldAddr rfl rfl fd75_0 rfl) ?_
    refine AQuiet.cons 92 rfl rfl rfl (OpJ.fieldAddr rfl rfl fd35_2 rfl) ?_
    refine AQuiet.cons 93 rfl rfl rfl (OpJ.loadCell (k := 2) (v := (.p (.int .i64 (q.sr : Int)))) rfl rfl ty3 rfl rfl rfl) ?_
    refine AQuiet.cons 94 rfl rfl rfl (OpJ.fieldAddr rfl rfl fd120_0 rfl) ?_
    refine AQuiet.cons 95 rfl rfl rfl (OpJ.load (v := .p (.int .i64 (a : Int))) rfl rfl ty118 rfl) ?_
    refine AQuiet.cons 96 rfl rfl rfl (OpJ.andN q.sr a rfl rfl rfl (by first | (show _ ≤ (9223372036854775807 : Int); omega) | (show _ ≤ (4294967295 : Int); omega) | (show _ ≤ (18446744073709551615 : Int); omega)) (by first | decide | (show _ ≤ (9223372036854775807 : Int); omega) | (show _ ≤ (4294967295 : Int); omega) | (show _ ≤ (18446744073709551615 : Int); omega))) ?_
    refine AQuiet.cons 97 rfl rfl rfl (OpJ.nilCheck rfl rfl) ?_
    refine AQuiet.cons 98 rfl rfl rfl (OpJ.fieldAddr rfl rfl fd75_0 rfl) ?_
    refine AQuiet.cons 99 rfl rfl rfl (OpJ.fieldAddr rfl rfl fd35_2 rfl) ?_
    refine AQuiet.nil ?_
    refine AList.c0 rfl rfl (OpJ.storeAt (k := 2) (cs2 := (List.map V.p (picL (((((q.sLo (min (min (manyN c a b) q.lo) q.hi)).sHi (max (max (manyN c a b) q.lo) q.hi)).sCr (q.cr ||| a)).sCc (q.cc ||| b)).sSr (q.sr &&& a))))) rfl rfl rfl rfl rfl rfl ty3 rfl rfl rfl (by rw [picL_len]; decide) rfl rfl) ?_
    refine AList.nil ?_
    refine AWp.seq ?_
    refine AWp.regionDraw 11 mixed (by kernel_rfl) (by decide) ?_
    refine AQuiet.cons 100 rfl rfl rfl (OpJ.move rfl rfl) ?_
    refine AQuiet.cons 101 rfl rfl rfl (OpJ.nilCheck rfl rfl) ?_
    refine AQuiet.cons 102 rfl rfl rfl (OpJ.fieldAddr rfl rfl fd75_0 rfl) ?_
    refine AQuiet.cons 103 rfl rfl rfl (OpJ.fieldAddr rfl rfl fd35_3 rfl) ?_
    refine AQuiet.cons 104 rfl rfl rfl (OpJ.loadCell (k := 3) (v := (.p (.int .i64 (q.sc : Int)))) rfl rfl ty3 rfl rfl rfl) ?_
    refine AQuiet.cons 105 rfl rfl rfl (OpJ.fieldAddr rfl rfl fd120_1 rfl) ?_
    refine AQuiet.cons 106 rfl rfl rfl (OpJ.load (v := .p (.int .i64 (b : Int))) rfl rfl ty118 rfl) ?_
    refine AQuiet.cons 107 rfl rfl rfl (OpJ.andN q.sc b rfl rfl rfl (by first | (show _ ≤ (9223372036854775807 : Int); omega) | (show _ ≤ (4294967295 : Int); omega) | (show _ ≤ (18446744073709551615 : Int); omega)) (by first | decide | (show _ ≤ (9223372036854775807 : Int); omega) | (show _ ≤ (4294967295 : Int); omega) | (show _ ≤ (18446744073709551615 : Int); omega))) ?_
    refine AQuiet.cons 108 rfl rfl rfl (OpJ.nilCheck rfl rfl) ?_
    refine AQuiet.cons 109 rfl rfl rfl (OpJ.fieldAddr rfl rfl fd75_0 rfl) ?_
    refine AQuiet.cons 110 rfl rfl rfl (OpJ.fieldAddr rfl rfl fd35_3 rfl) ?_
    refine AQuiet.nil ?_
    refine AList.c0 rfl rfl (OpJ.storeAt (k := 3) (cs2 := (List.map V.p (picL ((((((q.sLo (min (min (manyN c a b) q.lo) q.hi)).sHi (max (max (manyN c a b) q.lo) q.hi)).sCr (q.cr ||| a)).sCc (q.cc ||| b)).sSr (q.sr &&& a)).sSc (q.sc &&& b))))) rfl rfl rfl rfl rfl rfl ty3 rfl rfl rfl (by rw [picL_len]; decide) rfl rfl) ?_
    refine AList.nil ?_
    refine AWp.seq ?_
    refine AWp.region ?_
    refine AList.c 111 rfl rfl rfl (OpJ.load (v := .p (.agg [.int .i64 (a : Int), .int .i64 (b : Int)])) rfl rfl ty120 rfl) ?_
    refine AList.c 112 rfl rfl rfl (OpJ.makeFunc rfl rfl rfl) ?_
    refine AList.c 7 rfl rfl rfl (OpJ.assign rfl rfl) ?_
    refine AList.nil ?_
    refine AWp.seq ?_
    obtain ⟨z, hz⟩ : ∃ z, picR q (manyN c a b) a b = z := ⟨_, rfl⟩
    have hzp : z.sp = p.sp := by rw [← hz]; exact hsp
    rw [hz, hCt] at hfe
    refine AWp.norm [0] [(0, _), (4, _), (5, _), (7, _)] [.cells (List.map V.p (picL (z.sSp (spG z.sp a b C 0 0)))) 75] rfl (by repeat (first | exact Sub.nil | refine Sub.cons rfl ?_)) (by show [Blk.cells (renL _ (List.map V.p _)) _] = _; rw [renL_pure, spG_0, ← hz]; rfl) ?_
    refine AWp.region ?_
    refine AList.c 113 rfl rfl rfl (OpJ.fieldAddr rfl rfl fd24_0 rfl) ?_
    refine AList.c 114 rfl rfl rfl (OpJ.load (v := .p (intsV c.rows)) rfl rfl ty22 rfl) ?_
    refine AList.c 115 rfl rfl rfl (OpJ.lenSlice rfl rfl sl22 rfl) ?_
    refine AList.c 116 rfl rfl rfl (OpJ.move rfl rfl) ?_
    refine AList.nil ?_
    refine AWp.toEnd ?_
    refine AWp.block ?_
    refine AWp.loopHL [0, 4, 7, 115] (fun g => [(116, .p (.int .i64 ((g : Nat) : Int)))]) (fun g => [.cells (List.map V.p (picL (z.sSp (spG z.sp a b C g 0)))) 75]) (fun g => g ≤ c.rows.length) (fun g => c.rows.length - g) 0 (Nat.zero_le _) (To.sub (Sub.chk (Sub.cons rfl (Sub.nil)))) (fun r hg => ?_)
    refine AWp.seq ?_
    refine AWp.region ?_
    refine AList.c 117 rfl rfl rfl (OpJ.lss rfl rfl rfl) ?_
    refine AList.nil ?_
    refine AWp.seq ?_
    refine AWp.cond _ rfl (fun hc1 => ?_) (fun hc1 => ?_)
    · skip
      have hk0 : r < c.rows.length := by have h := of_decide_eq_true hc1; omega
      refine AWp.skip ?_
      refine AWp.seq ?_
      refine AWp.block ?_
      refine AWp.seq ?_
      refine AWp.region ?_
      refine AList.c 118 rfl rfl rfl (OpJ.move rfl rfl) ?_
      refine AList.c 8 rfl rfl rfl (OpJ.assign rfl rfl) ?_
      refine AList.nil ?_
      refine AWp.seq ?_
      refine AWp.region ?_
      refine AList.c 119 rfl rfl rfl (OpJ.fieldAddr rfl rfl fd24_1 rfl) ?_
      refine AList.c 120 rfl rfl rfl (OpJ.load (v := .p (.int .i64 c.cols)) rfl rfl ty3 rfl) ?_
      refine AList.c 121 rfl rfl rfl (OpJ.move rfl rfl) ?_
      refine AList.nil ?_
      refine AWp.block ?_
      refine AWp.loopHL [0, 4, 7, 8, 115, 116, 117, 118, 119, 120, 142] (fun g => [(121, .p (.int .i64 ((g : Nat) : Int)))]) (fun g => [.cells (List.map V.p (picL (z.sSp (spG z.sp a b C r g)))) 75]) (fun g => g ≤ C) (fun g => C - g) 0 (Nat.zero_le _) (To.sub (Sub.chk (Sub.cons rfl (Sub.nil)))) (fun k hh => ?_)
      refine AWp.seq ?_
      refine AWp.region ?_
      refine AList.c 122 rfl rfl rfl (OpJ.lss rfl rfl rfl) ?_
      refine AList.nil ?_
      refine AWp.seq ?_
      refine AWp.cond _ rfl (fun hc2 => ?_) (fun hc2 => ?_)
      · skip
        have hj0 : k < C := by have h := of_decide_eq_true hc2; omega
        have hjj : r * 8 + k < 64 := by omega
        have hB := spG_B (n := (p.n : Int)) (sp := z.sp) (fun j => by rw [hzp]; exact hps j) a b C r k (r * 8 + k)
        refine AWp.skip ?_
        refine AWp.seq ?_
        refine AWp.block ?_
        refine AWp.seq ?_
        refine AWp.region ?_
        refine AList.c 123 rfl rfl rfl (OpJ.move rfl rfl) ?_
        refine AList.c 9 rfl rfl rfl (OpJ.assign rfl rfl) ?_
        refine AList.nil ?_
        refine AWp.seq ?_
        refine AWp.region ?_
        refine AList.c 124 rfl rfl rfl (OpJ.move rfl rfl) ?_
        refine AList.c 125 rfl rfl rfl (OpJ.move rfl rfl) ?_
        refine AList.c 126 rfl rfl rfl (OpJ.move rfl rfl) ?_
        refine AList.c 127 rfl rfl rfl (OpJ.callF (args := [.int .i64 (r : Int), .int .i64 (k : Int)]) (r := .bool (badB a b r k)) (⟨72, [.agg [.int .i64 (a : Int), .int .i64 (b : Int)], .int .i64 (r : Int), .int .i64 (k : Int)], rfl, rf72, xbad_ok a b r k ha hb⟩) rfl rfl rfl) ?_
        refine AList.nil ?_
        refine AWp.cond _ rfl (fun hc3 => ?_) (fun hc3 => ?_)
        · skip
          have hst := spG_T (sp := z.sp) (C := C) (show k < 8 by omega) hc3
          refine AWp.regionDraw 13 mixed (by kernel_rfl) (by decide) ?_
          refine AQuiet.cons 128 rfl rfl rfl (OpJ.move rfl rfl) ?_
          refine AQuiet.cons 129 rfl rfl rfl (OpJ.move rfl rfl) ?_
          refine AQuiet.cons 130 rfl rfl rfl (OpJ.move rfl rfl) ?_
          refine AQuiet.cons 131 rfl rfl rfl (OpJ.nilCheck rfl rfl) ?_
          refine AQuiet.cons 132 rfl rfl rfl (OpJ.fieldAddr rfl rfl fd75_2 rfl) ?_
          refine AQuiet.cons 133 rfl rfl rfl (OpJ.indexArrI rfl rfl rfl ar73 el73 (by omega)) ?_
          refine AQuiet.cons 134 rfl rfl rfl (OpJ.indexArrI rfl rfl rfl ar72 el72 (by omega)) ?_
          refine AQuiet.cons 135 rfl rfl rfl (OpJ.loadCell (k := (6 + (r * 8 + k))) (v := (.p (.int .i64 (spG z.sp a b C r k (r * 8 + k))))) rfl rfl ty3 rfl (by omega) (picL_sp _ hjj)) ?_
          refine AQuiet.cons 136 rfl rfl rfl (OpJ.add rfl rfl rfl (i64ok ?_)) ?_
          · omega
          refine AQuiet.cons 137 rfl rfl rfl (OpJ.nilCheck rfl rfl) ?_
          refine AQuiet.cons 138 rfl rfl rfl (OpJ.fieldAddr rfl rfl fd75_2 rfl) ?_
          refine AQuiet.cons 139 rfl rfl rfl (OpJ.indexArrI rfl rfl rfl ar73 el73 (by omega)) ?_
          refine AQuiet.cons 140 rfl rfl rfl (OpJ.indexArrI rfl rfl rfl ar72 el72 (by omega)) ?_
          refine AQuiet.nil ?_
          refine AList.c0 rfl rfl (OpJ.storeAt (k := (6 + (r * 8 + k))) (cs2 := (List.map V.p (picL (z.sSp (spG z.sp a b C r (k + 1)))))) rfl rfl rfl rfl rfl rfl ty3 rfl rfl (by omega) (by rw [picL_len]; omega) (by rw [picL_setsp _ hjj, hst]; rfl) rfl) ?_
          refine AList.nil ?_
          refine AWp.region ?_
          refine AList.c 141 rfl rfl rfl (OpJ.add rfl rfl rfl (i64ok ?_)) ?_
          · omega
          refine AList.c 121 rfl rfl rfl (OpJ.move rfl rfl) ?_
          refine AList.nil ?_
          refine ⟨k + 1, ?_, ?_, ?_⟩
          · omega
          · omega
          exact To.sub (Sub.cons rfl (by repeat (first | exact Sub.nil | refine Sub.cons rfl ?_)))
        · skip
          have hst := spG_F (sp := z.sp) (C := C) (show k < 8 by omega) hc3
          refine AWp.skip ?_
          refine AWp.region ?_
          refine AList.c 141 rfl rfl rfl (OpJ.add rfl rfl rfl (i64ok ?_)) ?_
          · omega
          refine AList.c 121 rfl rfl rfl (OpJ.move rfl rfl) ?_
          refine AList.nil ?_
          refine ⟨k + 1, ?_, ?_, ?_⟩
          · omega
          · omega
          rw [hst]
          exact To.sub (Sub.cons rfl (by repeat (first | exact Sub.nil | refine Sub.cons rfl ?_)))
      · skip
        obtain rfl : C = k := by have h := of_decide_eq_false hc2; omega
        rw [spG_row]
        refine AWp.exit ?_
        refine AWp.region ?_
        refine AList.c 142 rfl rfl rfl (OpJ.add rfl rfl rfl (i64ok ?_)) ?_
        · omega
        refine AList.c 116 rfl rfl rfl (OpJ.move rfl rfl) ?_
        refine AList.nil ?_
        refine ⟨r + 1, ?_, ?_, ?_⟩
        · omega
        · omega
        exact To.sub (Sub.cons rfl (by repeat (first | exact Sub.nil | refine Sub.cons rfl ?_)))
    · skip
      obtain rfl : r = c.rows.length := by have h := of_decide_eq_false hc1; omega
      refine AWp.exit ?_
      exact ⟨[], _, To.done [0] rfl Sub.nil (by show [Blk.cells (renL _ (List.map V.p _)) _] = _; rw [renL_pure, ← hfe]), .inl rfl, _, resV.none_ rfl, rfl⟩
end Go.Proofs.YtofenmailjdehaaDoor
