/-
  The law ShadeMore.
-/
import Derived.Test.YthiapodcippnoaaSdFactsJ
import Derived.Test.YthiapodcippnoaaSd17
import Derived.Test.YthiapodcippnoaaSdM
import Derived.Test.YthiapodcippnoaaAfN
set_option linter.unusedVariables false
set_option maxRecDepth 100000
set_option maxHeartbeats 4000000
set_option linter.unusedSimpArgs false
namespace Go.Proofs.Ythiapodcippnoaa
open Go.AF
theorem stk_len (l : List Stk) : (l.flatMap Stk.cells).length = l.length * 4 := flat_len (c := 4) (fun _ => rfl) l
theorem oneStk (l : List Stk) : (((l.flatMap Stk.cells).map V.p).all oneV) = true := by
  rw [List.all_map, List.all_eq_true]
  intro x hx
  obtain ⟨y, _, hy⟩ := List.mem_flatMap.1 hx
  simp only [Stk.cells, List.mem_cons, List.not_mem_nil, or_false] at hy
  rcases hy with rfl | rfl | rfl | rfl <;> rfl
theorem rich_blk (l : Lds) (mo : Stk) : Blk.cells ((xA l).map .p ++ .p (.is (l.st.flatMap Stk.cells ++ mo.cells) (0 + l.st.length + 1)) :: (xB l).map .p) 28 = Blk.cells ((richL l mo).cells.map .p) 28 := by
  have e : stV (l.st ++ [mo]) = .is (l.st.flatMap Stk.cells ++ mo.cells) (0 + l.st.length + 1) := by
    unfold stV
    rw [List.flatMap_append, List.length_append, Nat.zero_add]
    simp
  unfold richL Lds.cells
  dsimp only
  rw [e]
  rfl
def trnX (l : Lds) (n : Nat) : Blk := .cells ((xA l).map .p ++ accV 4 n :: (xB l).map .p) 28
theorem turn_val (l : Lds) (y : Nat) : V.p (.is ((turnS l.st y l.st.length).flatMap Stk.cells) l.st.length) = V.p (stV (turnS l.st y l.st.length)) := by
  unfold stV
  rw [turnS_len]
theorem shadeMore_main (c : List Tnt) (l : Lds) (s : List Shd) (mo : Stk) (y : Nat) (hcb : c.length ≤ bigN) (hs : l.st.length ≤ bigN) (hsl : s.length ≤ bigN) (hy : y ≤ 255) : Pure Try.prog 10 [curV c, ldV l, shdV s, .agg mo.cells, .int .u8 (y : Int)] (.bool true) := by
  have hsl2 := hsl
  unfold bigN at hsl2
  refine Pure.start (N := 310) Try.func10 rfl rfl (Nat.le_of_ble_eq_true rfl) ?_
  refine AWp.seq ?_
  refine AWp.region ?_
  refine AList.c 6 rfl rfl rfl (OpJ.boxImm rfl rfl rfl) ?_
  refine AList.c 8 rfl rfl rfl (OpJ.boxImm rfl rfl rfl) ?_
  refine AList.c 10 rfl rfl rfl (OpJ.assign rfl rfl) ?_
  refine AList.nil ?_
  refine AWp.seq ?_
  refine AWp.seq ?_
  refine AWp.region ?_
  refine AList.c 37 rfl rfl rfl (OpJ.move rfl rfl) ?_
  refine AList.c 38 rfl rfl rfl (OpJ.load (v := .p (ldV l)) rfl rfl ty28 rfl) ?_
  refine AList.c 39 rfl rfl rfl (OpJ.buildImm rfl slz39 (by decide) rfl rfl rfl) ?_
  refine AList.c 40 rfl rfl rfl (OpJ.callP (great_ok c [l] hcb (by unfold bigN; show 1 ≤ _; omega) (fun x hx => by simp at hx; subst hx; exact hs)) rfl rfl rfl rfl rf13) ?_
  refine AList.c 41 rfl rfl rfl (OpJ.move rfl rfl) ?_
  refine AList.g 42 41 rfl rfl rfl rfl rfl rfl rfl [(2, _)] (fun h => And.intro (.inl rfl) (trivial)) (fun h => (OpJ.move rfl rfl)) ?_
  refine AList.g 43 41 rfl rfl rfl rfl rfl rfl rfl [(42, _)] (fun h => And.intro (.inr ⟨_, rfl, h⟩) (trivial)) (fun h => (OpJ.lenSlice rfl rfl sl23 rfl)) ?_
  refine AList.g 44 41 rfl rfl rfl rfl rfl rfl rfl [(43, _)] (fun h => And.intro (.inr ⟨_, rfl, h⟩) (trivial)) (fun h => (OpJ.gtr rfl rfl rfl)) ?_
  refine AList.c 45 rfl rfl rfl (OpJ.or_ rfl rfl rfl ?_) ?_
  · first | (intro h; rw [h]; rfl) | (intro h; simp_all)
  refine AList.c 46 rfl rfl rfl (OpJ.move rfl rfl) ?_
  refine AList.g 47 46 rfl rfl rfl rfl rfl rfl rfl [(6, _)] (fun h => And.intro (.inl rfl) (trivial)) (fun h => (OpJ.fieldAddr rfl rfl fd28_3 rfl)) ?_
  refine AList.g 48 46 rfl rfl rfl rfl rfl rfl rfl [(47, _)] (fun h => And.intro (.inr ⟨_, rfl, h⟩) (trivial)) (fun h => (OpJ.load (v := .p (stV l.st)) rfl rfl ty26 rfl)) ?_
  refine AList.g 49 46 rfl rfl rfl rfl rfl rfl rfl [(48, _)] (fun h => And.intro (.inr ⟨_, rfl, h⟩) (trivial)) (fun h => (OpJ.lenSlice rfl rfl sl26 rfl)) ?_
  refine AList.g 50 46 rfl rfl rfl rfl rfl rfl rfl [(49, _)] (fun h => And.intro (.inr ⟨_, rfl, h⟩) (trivial)) (fun h => (OpJ.geq rfl rfl rfl)) ?_
  refine AList.c 51 rfl rfl rfl (OpJ.or_ rfl rfl rfl ?_) ?_
  · first | (intro h; rw [h]; rfl) | (intro h; simp_all)
  refine AList.nil ?_
  refine AWp.cond _ rfl (fun hc0 => ?_) (fun hc0 => ?_)
  · skip
    refine AWp.seq ?_
    refine AWp.region ?_
    refine AList.c 52 rfl rfl rfl (OpJ.callP (alive_ok) rfl rfl rfl rfl rf14) ?_
    refine AList.c 10 rfl rfl rfl (OpJ.assign rfl rfl) ?_
    refine AList.nil ?_
    refine AWp.ret ?_
    exact Fin.oneE rfl rfl rfl
  · skip
    have h6 : l.st.length < 6 := by have h := of_decide_eq_false (Bool.or_eq_false_iff.1 hc0).2; omega
    refine AWp.skip ?_
    refine AWp.seq ?_
    refine AWp.region ?_
    refine AList.c 54 rfl rfl rfl (OpJ.move rfl rfl) ?_
    refine AList.c 55 rfl rfl rfl (OpJ.load (v := .p (ldV l)) rfl rfl ty28 rfl) ?_
    refine AList.c 56 rfl rfl rfl (OpJ.callP (black_R c l hcb hs) rfl rfl rfl rfl rf15) ?_
    refine AList.c 53 rfl rfl rfl (OpJ.move rfl rfl) ?_
    refine AList.c 57 rfl rfl rfl (OpJ.extract rfl rfl rfl) ?_
    refine AList.c 58 rfl rfl rfl (OpJ.extract rfl rfl rfl) ?_
    refine AList.c 11 rfl rfl rfl (OpJ.allocOwn rfl zr25 rfl) ?_
    refine AList.c0 rfl rfl (OpJ.store (H' := [.cells [.p (.int .i64 (blackR c l).1.1), .p (.int .i64 (blackR c l).1.2)] 25]) rfl rfl rfl rfl rfl ty25 rfl rfl) ?_
    refine AList.c 12 rfl rfl rfl (OpJ.assign rfl rfl) ?_
    refine AList.nil ?_
    refine AWp.seq ?_
    refine AWp.region ?_
    refine AList.c 60 rfl rfl rfl (OpJ.move rfl rfl) ?_
    refine AList.c 61 rfl rfl rfl (OpJ.move rfl rfl) ?_
    refine AList.c 62 rfl rfl rfl (OpJ.load (v := .p (ldV l)) rfl rfl ty28 rfl) ?_
    refine AList.c 63 rfl rfl rfl (OpJ.callP (has_R c s l hcb hsl hs) rfl rfl rfl rfl rf17) ?_
    refine AList.c 59 rfl rfl rfl (OpJ.move rfl rfl) ?_
    refine AList.c 64 rfl rfl rfl (OpJ.extract rfl rfl rfl) ?_
    refine AList.c 65 rfl rfl rfl (OpJ.extract rfl rfl rfl) ?_
    refine AList.c 13 rfl rfl rfl (OpJ.assign rfl rfl) ?_
    refine AList.c 14 rfl rfl rfl (OpJ.assign rfl rfl) ?_
    refine AList.nil ?_
    refine AWp.seq ?_
    refine AWp.seq ?_
    refine AWp.region ?_
    refine AList.c 66 rfl rfl rfl (OpJ.move rfl rfl) ?_
    refine AList.c 67 rfl rfl rfl (OpJ.neq rfl rfl rfl) ?_
    refine AList.nil ?_
    refine AWp.cond _ rfl (fun hc1 => ?_) (fun hc1 => ?_)
    · skip
      have e : (blackR c l).2 ≠ 0 := by simpa using hc1
      have hE := has_none (s := s) e
      refine AWp.seq ?_
      refine AWp.region ?_
      refine AList.c 68 rfl rfl rfl (OpJ.move rfl rfl) ?_
      refine AList.c 69 rfl rfl rfl (OpJ.lenSlice rfl rfl sl34 rfl) ?_
      refine AList.c 70 rfl rfl rfl (OpJ.eql rfl rfl rfl) ?_
      refine AList.c 71 rfl rfl rfl (OpJ.move rfl rfl) ?_
      refine AList.g 72 71 rfl rfl rfl rfl rfl rfl rfl [] (fun h => trivial) (fun h => (OpJ.callP (alive_ok) rfl rfl rfl rfl rf14)) ?_
      refine AList.c 73 rfl rfl rfl (OpJ.and_ rfl rfl rfl ?_) ?_
      · first | (intro h; rw [h]; rfl) | (intro h; simp_all)
      refine AList.c 10 rfl rfl rfl (OpJ.assign rfl rfl) ?_
      refine AList.nil ?_
      refine AWp.ret ?_
      refine Fin.oneE rfl rfl ?_
      simp [hE]
    · skip
      have e : (blackR c l).2 = 0 := by simpa using hc1
      have hO := blackR_ok e
      have lg := hO.ol.g
      have lc := hO.ol.c
      have lt := hO.ol.t
      rw [blackR_fst e]
      refine AWp.skip ?_
      refine AWp.seq ?_
      refine AWp.seq ?_
      refine AWp.region ?_
      refine AList.c 74 rfl rfl rfl (OpJ.move rfl rfl) ?_
      refine AList.c 75 rfl rfl rfl (OpJ.callP (rcurve_ok c hcb) rfl rfl rfl rfl rf28) ?_
      refine AList.c 76 rfl rfl rfl (OpJ.not_ rfl rfl) ?_
      refine AList.c 77 rfl rfl rfl (OpJ.move rfl rfl) ?_
      refine AList.g 78 77 rfl rfl rfl rfl rfl rfl rfl [(6, _)] (fun h => And.intro (.inl rfl) (trivial)) (fun h => (OpJ.load (v := .p (ldV l)) rfl rfl ty28 rfl)) ?_
      refine AList.g 79 77 rfl rfl rfl rfl rfl rfl rfl [(78, _)] (fun h => And.intro (.inr ⟨_, rfl, h⟩) (trivial)) (fun h => (OpJ.callP (rleads_ok l hs) rfl rfl rfl rfl rf29)) ?_
      refine AList.g 80 77 rfl rfl rfl rfl rfl rfl rfl [(79, _)] (fun h => And.intro (.inr ⟨_, rfl, h⟩) (trivial)) (fun h => (OpJ.not_ rfl rfl)) ?_
      refine AList.c 81 rfl rfl rfl (OpJ.or_ rfl rfl rfl ?_) ?_
      · first | (intro h; rw [h]; rfl) | (intro h; simp_all)
      refine AList.nil ?_
      refine AWp.cond _ rfl (fun hc2 => ?_) (fun hc2 => ?_)
      · skip
        rw [decide_eq_true hO.oc, (ldB_iff l).2 hO.ol] at hc2
        simp at hc2
      · skip
        refine AWp.skip ?_
        refine AWp.seq ?_
        refine AWp.regionDrawG 8 3 [1, 2, 3] [([], false), ([], false), ([], false), ([1], true), ([2], true), ([3], true), ([1], true), ([2], true)] mixed (by kernel_rfl) (by decide) (by kernel_rfl) rfl rfl ?_
        refine AQG.cons 82 rfl rfl rfl (fun _ => (OpJ.load (v := .p (ldV l)) rfl rfl ty28 rfl)) rfl ?_
        refine AQG.cons 83 rfl rfl rfl (fun _ => (OpJ.load (v := .p (ldV l)) rfl rfl ty28 rfl)) rfl ?_
        refine AQG.cons 84 rfl rfl rfl (fun _ => (OpJ.load (v := .p (ldV l)) rfl rfl ty28 rfl)) rfl ?_
        refine AQG.lay (v0 := .ptr 4 0) 15 1 rfl rfl rfl rfl rfl rfl rfl rfl (fun _ => (OpJ.allocOwn rfl zr28 rfl)) rfl rfl rfl ?_
        refine AQG.lay (v0 := .ptr 4 0) 16 2 rfl rfl rfl rfl rfl rfl rfl rfl (fun _ => (OpJ.allocOwn rfl zr28 rfl)) rfl rfl rfl ?_
        refine AQG.lay (v0 := .ptr 4 0) 17 3 rfl rfl rfl rfl rfl rfl rfl rfl (fun _ => (OpJ.allocOwn rfl zr28 rfl)) rfl rfl rfl ?_
        refine AQG.put 1 rfl rfl rfl rfl (fun _ => (OpJ.store rfl rfl rfl rfl rfl ty28 rfl rfl)) rfl rfl ?_
        refine AQG.put 2 rfl rfl rfl rfl (fun _ => (OpJ.store rfl rfl rfl rfl rfl ty28 rfl rfl)) rfl rfl ?_
        refine AQG.nil ?_
        refine AList.c0 rfl rfl (OpJ.store rfl rfl rfl rfl rfl ty28 rfl rfl) ?_
        refine AList.nil ?_
        refine AWp.seq ?_
        refine AWp.norm [0, 1, 2, 3] [(0, _), (2, _), (4, _), (6, _), (8, _), (11, _), (13, _), (14, _), (15, _), (16, _), (17, _)] [.cells [.p (.int .i64 (blk c l).1), .p (.int .i64 (blk c l).2)] 25, .cells ((l).cells.map .p) 28, .cells ((l).cells.map .p) 28, .cells ((l).cells.map .p) 28] rfl (by repeat (first | exact Sub.nil | refine Sub.cons rfl ?_)) rfl ?_
        refine AWp.regionDrawG 6 2 [4, 5] [([4], true), ([], false), ([], false), ([5, 4], true), ([], false), ([], false)] mixed (by kernel_rfl) (by decide) (by kernel_rfl) rfl rfl ?_
        refine AQG.lay (v0 := .row 6 _) 85 4 rfl rfl rfl rfl rfl rfl rfl rfl (fun _ => (OpJ.buildOwn rfl slz26 (by decide) rfl rfl)) rfl rfl rfl ?_
        refine AQG.cons 86 rfl rfl rfl (fun _ => (OpJ.fieldAddr rfl rfl fd28_3 rfl)) rfl ?_
        refine AQG.cons 87 rfl rfl rfl (fun _ => (OpJ.load (v := .p (stV l.st)) rfl rfl ty26 rfl)) rfl ?_
        refine AQG.turn (v0 := .row 6 _) 88 5 4 rfl rfl rfl rfl rfl rfl rfl rfl rfl rfl (fun _ => (OpJ.appendRow (i := 4) (len := 0) (cs := []) rfl rfl rfl slz26 sl26 rfl ?_ (asrc_is (xs := (l.st.flatMap Stk.cells)) (n := l.st.length) (sz := 4) (stk_len l.st)) (oneStk l.st) by51 (by decide) ?_)) rfl rfl (congrArg (fun z => Blk.row z 51) (renL_pure _ (l.st.flatMap Stk.cells))) ?_
        · rfl
        · show (2 * (0 + l.st.length) + 192) * 32 ≤ 281474976710656; omega
        refine AQG.cons 89 rfl rfl rfl (fun _ => (OpJ.load (v := .p (.agg mo.cells)) rfl rfl ty51 rfl)) rfl ?_
        refine AQG.cons 90 rfl rfl rfl (fun _ => (OpJ.buildImm rfl slz26 (by decide) rfl rfl rfl)) rfl ?_
        refine AQG.nil ?_
        refine AList.c 91 rfl rfl rfl (OpJ.appendRow (i := 5) (len := 0 + l.st.length) (cs := [] ++ (l.st.flatMap Stk.cells).map .p) (ys := mo.cells.map .p) (n := 1) rfl rfl rfl slz26 sl26 rfl ?_ rfl rfl by51 (by decide) ?_) ?_
        · rw [List.nil_append, List.length_map, stk_len, Nat.zero_add]; rfl
        · show (2 * (0 + l.st.length + 1) + 192) * 32 ≤ 281474976710656; omega
        refine AList.c 92 rfl rfl rfl (OpJ.fieldAddr rfl rfl fd28_3 rfl) ?_
        refine AList.c0 rfl rfl (OpJ.store rfl rfl rfl rfl rfl ty26 rfl rfl) ?_
        refine AList.nil ?_
        refine AWp.seq ?_
        refine AWp.to (To.frzC 6 1 (by decide) rfl (allP_cat (l.st.flatMap Stk.cells) mo.cells) rfl) ?_
        refine AWp.norm [0, 1, 2, 3] [(0, _), (2, _), (4, _), (6, _), (11, _), (13, _), (14, _), (15, _), (16, _), (17, _)] [.cells [.p (.int .i64 (blk c l).1), .p (.int .i64 (blk c l).2)] 25, .cells ((xA l).map .p ++ .p (.is ((l.st.flatMap Stk.cells) ++ mo.cells) (0 + l.st.length + 1)) :: (xB l).map .p) 28, .cells ((l).cells.map .p) 28, .cells ((l).cells.map .p) 28] rfl (by repeat (first | exact Sub.nil | refine Sub.cons rfl ?_)) rfl ?_
        rw [rich_blk]
        refine AWp.region ?_
        refine AList.c 93 rfl rfl rfl (OpJ.fieldAddr rfl rfl fd28_2 rfl) ?_
        refine AList.c 94 rfl rfl rfl (OpJ.load rfl rfl ty3 rfl) ?_
        refine AList.c 95 rfl rfl rfl (OpJ.move rfl rfl) ?_
        refine AList.c 96 rfl rfl rfl (OpJ.convInt rfl rfl (by rw [un5]; rfl) un3 (i64ok ?_)) ?_
        · omega
        refine AList.c 97 rfl rfl rfl (OpJ.rem (m := ((y % 8 : Nat) : Int)) rfl rfl rfl ?_ ?_) ?_
        · decide
        · exact tmodN _ _
        refine AList.c 98 rfl rfl rfl (OpJ.sub_ rfl rfl rfl (i64ok ?_)) ?_
        · omega
        refine AList.c 99 rfl rfl rfl (OpJ.max2 rfl rfl rfl) ?_
        refine AList.c 100 rfl rfl rfl (OpJ.fieldAddr rfl rfl fd28_2 rfl) ?_
        refine AList.c0 rfl rfl (OpJ.store (H' := [.cells [.p (.int .i64 (blk c l).1), .p (.int .i64 (blk c l).2)] 25, .cells ((richL l mo).cells.map .p) 28, .cells ((lessL l y).cells.map .p) 28, .cells ((l).cells.map .p) 28]) rfl rfl rfl rfl rfl ty3 rfl rfl) ?_
        refine AList.nil ?_
        refine AWp.seq ?_
        refine AWp.region ?_
        refine AList.c 101 rfl rfl rfl (OpJ.fieldAddr rfl rfl fd28_0 rfl) ?_
        refine AList.c 102 rfl rfl rfl (OpJ.fieldAddr rfl rfl fd25_1 rfl) ?_
        refine AList.c 103 rfl rfl rfl (OpJ.load rfl rfl ty3 rfl) ?_
        refine AList.c 104 rfl rfl rfl (OpJ.fieldAddr rfl rfl fd28_0 rfl) ?_
        refine AList.c 105 rfl rfl rfl (OpJ.fieldAddr rfl rfl fd25_0 rfl) ?_
        refine AList.c 106 rfl rfl rfl (OpJ.load rfl rfl ty3 rfl) ?_
        refine AList.c 107 rfl rfl rfl (OpJ.move rfl rfl) ?_
        refine AList.c 108 rfl rfl rfl (OpJ.convInt rfl rfl (by rw [un5]; rfl) un3 (i64ok ?_)) ?_
        · omega
        refine AList.c 109 rfl rfl rfl (OpJ.add rfl rfl rfl (i64ok ?_)) ?_
        · omega
        refine AList.c 110 rfl rfl rfl (OpJ.min2 rfl rfl rfl) ?_
        refine AList.c 111 rfl rfl rfl (OpJ.fieldAddr rfl rfl fd28_0 rfl) ?_
        refine AList.c 112 rfl rfl rfl (OpJ.fieldAddr rfl rfl fd25_1 rfl) ?_
        refine AList.c 113 rfl rfl rfl (OpJ.load rfl rfl ty3 rfl) ?_
        refine AList.c 114 rfl rfl rfl (OpJ.callP (lspan_ok _ _) rfl rfl rfl rfl rf25) ?_
        refine AList.c 115 rfl rfl rfl (OpJ.fieldAddr rfl rfl fd28_0 rfl) ?_
        refine AList.c0 rfl rfl (OpJ.store (H' := [.cells [.p (.int .i64 (blk c l).1), .p (.int .i64 (blk c l).2)] 25, .cells ((richL l mo).cells.map .p) 28, .cells ((lessL l y).cells.map .p) 28, .cells ((thinL l y).cells.map .p) 28]) rfl rfl rfl rfl rfl ty25 rfl rfl) ?_
        refine AList.nil ?_
        refine AWp.seq ?_
        refine AWp.seq ?_
        refine AWp.region ?_
        refine AList.c 116 rfl rfl rfl (OpJ.load (v := .p (ldV (richL l mo))) rfl rfl ty28 rfl) ?_
        refine AList.c 117 rfl rfl rfl (OpJ.load (v := .p (ldV (lessL l y))) rfl rfl ty28 rfl) ?_
        refine AList.c 118 rfl rfl rfl (OpJ.load (v := .p (ldV (thinL l y))) rfl rfl ty28 rfl) ?_
        refine AList.c 119 rfl rfl rfl (OpJ.buildWh (xs := (moreL l mo y).flatMap Lds.cells) [(richL l mo).cells, (lessL l y).cells, (thinL l y).cells] rfl slz39 (by decide) rfl rfl rfl rfl rfl) ?_
        refine AList.c 120 rfl rfl rfl (OpJ.lenSlice rfl rfl sl39 rfl) ?_
        refine AList.c 121 rfl rfl rfl (OpJ.move rfl rfl) ?_
        refine AList.nil ?_
        refine AWp.block ?_
        refine AWp.loopHL [0, 2, 4, 6, 11, 13, 14, 27, 28, 29, 30, 31, 32, 33, 34, 35, 36, 119, 120, 189, 190, 191, 192, 193, 194, 195, 196, 197, 198, 199, 200, 201, 202, 203, 204, 205, 206, 207, 208, 209, 210, 211, 212, 213, 214, 215, 216, 217, 218, 219, 220, 221, 222, 223, 224, 225, 226, 227, 228, 229, 230, 231, 232, 233, 234, 235, 236, 237, 238, 239, 240, 241, 242, 243, 244, 245, 246, 247, 248, 249, 250, 251, 252, 253, 254, 255, 256, 257, 258, 259, 260, 261, 262, 263, 264, 265, 266, 267, 268, 269, 270, 271, 272, 273, 274, 275, 276, 277, 278, 279, 280, 281, 282, 283, 284, 285, 286, 287, 288, 289, 290, 291, 292, 293, 294, 295, 296, 297, 298, 299, 300, 301, 302, 303, 304, 305, 306, 307, 308, 309] (fun g => [(121, .p (.int .i64 ((g : Nat) : Int)))]) (fun g => [.cells [.p (.int .i64 (blk c l).1), .p (.int .i64 (blk c l).2)] 25]) (fun g => g ≤ 3) (fun g => 3 - g) 0 (Nat.zero_le _) (To.done [0] rfl (by repeat (first | exact Sub.nil | refine Sub.cons rfl ?_)) rfl) (fun i hg => ?_)
        refine AWp.seq ?_
        refine AWp.region ?_
        refine AList.c 122 rfl rfl rfl (OpJ.lss rfl rfl rfl) ?_
        refine AList.nil ?_
        refine AWp.seq ?_
        refine AWp.cond _ rfl (fun hc3 => ?_) (fun hc3 => ?_)
        · skip
          have hk0 : i < (moreL l mo y).length := by have h := of_decide_eq_true hc3; show i < 3; omega
          have hi3 : i < 3 := hk0
          have hxs := moreX_st l mo y i
          have hxn : (moreX l mo y i).st.length ≤ bigN := by unfold bigN; omega
          refine AWp.skip ?_
          refine AWp.seq ?_
          refine AWp.block ?_
          refine AWp.seq ?_
          refine AWp.region ?_
          refine AList.c 123 rfl rfl rfl (OpJ.indexG (g := moreX l mo y) (moreX_get l mo y) rfl rfl rfl sl39 el39 rfl (fun _ => rfl) (by decide) hk0) ?_
          refine AList.c 124 rfl rfl rfl (OpJ.load (v := .p (ldV (moreX l mo y i))) rfl rfl ty28 rfl) ?_
          refine AList.c 19 rfl rfl rfl (OpJ.allocOwn rfl zr28 rfl) ?_
          refine AList.c0 rfl rfl (OpJ.store (H' := [.cells [.p (.int .i64 (blk c l).1), .p (.int .i64 (blk c l).2)] 25, .cells (((moreX l mo y i)).cells.map .p) 28]) rfl rfl rfl rfl rfl ty28 rfl rfl) ?_
          refine AList.nil ?_
          refine AWp.seq ?_
          refine AWp.region ?_
          refine AList.c 126 rfl rfl rfl (OpJ.move rfl rfl) ?_
          refine AList.c 127 rfl rfl rfl (OpJ.load (v := .p (ldV (moreX l mo y i))) rfl rfl ty28 rfl) ?_
          refine AList.c 128 rfl rfl rfl (OpJ.callP (black_R c (moreX l mo y i) hcb hxn) rfl rfl rfl rfl rf15) ?_
          refine AList.c 125 rfl rfl rfl (OpJ.move rfl rfl) ?_
          refine AList.c 129 rfl rfl rfl (OpJ.extract rfl rfl rfl) ?_
          refine AList.c 130 rfl rfl rfl (OpJ.extract rfl rfl rfl) ?_
          refine AList.c 20 rfl rfl rfl (OpJ.allocOwn rfl zr25 rfl) ?_
          refine AList.c0 rfl rfl (OpJ.store (H' := [.cells [.p (.int .i64 (blk c l).1), .p (.int .i64 (blk c l).2)] 25, .cells (((moreX l mo y i)).cells.map .p) 28, .cells [.p (.int .i64 (blackR c (moreX l mo y i)).1.1), .p (.int .i64 (blackR c (moreX l mo y i)).1.2)] 25]) rfl rfl rfl rfl rfl ty25 rfl rfl) ?_
          refine AList.c 21 rfl rfl rfl (OpJ.assign rfl rfl) ?_
          refine AList.nil ?_
          refine AWp.seq ?_
          refine AWp.seq ?_
          refine AWp.region ?_
          refine AList.c 131 rfl rfl rfl (OpJ.move rfl rfl) ?_
          refine AList.c 132 rfl rfl rfl (OpJ.neq rfl rfl rfl) ?_
          refine AList.nil ?_
          refine AWp.cond _ rfl (fun hc4 => ?_) (fun hc4 => ?_)
          · skip
            have e4 : (blackR c (moreX l mo y i)).2 ≠ 0 := by simpa using hc4
            refine AWp.seq ?_
            refine AWp.seq ?_
            refine AWp.region ?_
            refine AList.c 133 rfl rfl rfl (OpJ.move rfl rfl) ?_
            refine AList.c 134 rfl rfl rfl (OpJ.neq rfl rfl rfl) ?_
            refine AList.c 135 rfl rfl rfl (OpJ.move rfl rfl) ?_
            refine AList.g 136 135 rfl rfl rfl rfl rfl rfl rfl [(19, _)] (fun h => And.intro (.inl rfl) (trivial)) (fun h => (OpJ.load (v := .p (ldV (moreX l mo y i))) rfl rfl ty28 rfl)) ?_
            refine AList.g 137 135 rfl rfl rfl rfl rfl rfl rfl [(136, _)] (fun h => And.intro (.inr ⟨_, rfl, h⟩) (trivial)) (fun h => (OpJ.callP (rleads_ok (moreX l mo y i) hxn) rfl rfl rfl rfl rf29)) ?_
            refine AList.c 138 rfl rfl rfl (OpJ.and_ rfl rfl rfl ?_) ?_
            · first | (intro h; rw [h]; rfl) | (intro h; simp_all)
            refine AList.nil ?_
            refine AWp.cond _ rfl (fun hc5 => ?_) (fun hc5 => ?_)
            · skip
              exfalso
              have h5 := Bool.and_eq_true_iff.1 hc5
              have := blackR_six hO.oc h5.2 e4
              simp [this] at h5
            · skip
              refine AWp.skip ?_
              refine AWp.exit ?_
              refine AWp.region ?_
              refine AList.c 188 rfl rfl rfl (OpJ.add rfl rfl rfl (i64ok ?_)) ?_
              · omega
              refine AList.c 121 rfl rfl rfl (OpJ.move rfl rfl) ?_
              refine AList.nil ?_
              refine ⟨i + 1, ?_, ?_, ?_⟩
              · omega
              · omega
              exact To.done [0] rfl (by repeat (first | exact Sub.nil | refine Sub.cons rfl ?_)) rfl
          · skip
            have e4 : (blackR c (moreX l mo y i)).2 = 0 := by simpa using hc4
            have hM := more_three (s := s) e mo y i hi3 e4
            rw [blackR_fst e4]
            refine AWp.skip ?_
            refine AWp.seq ?_
            refine AWp.region ?_
            refine AList.c 140 rfl rfl rfl (OpJ.move rfl rfl) ?_
            refine AList.c 141 rfl rfl rfl (OpJ.move rfl rfl) ?_
            refine AList.c 142 rfl rfl rfl (OpJ.load (v := .p (ldV (moreX l mo y i))) rfl rfl ty28 rfl) ?_
            refine AList.c 143 rfl rfl rfl (OpJ.callP (has_R c s (moreX l mo y i) hcb hsl hxn) rfl rfl rfl rfl rf17) ?_
            refine AList.c 139 rfl rfl rfl (OpJ.move rfl rfl) ?_
            refine AList.c 144 rfl rfl rfl (OpJ.extract rfl rfl rfl) ?_
            refine AList.c 145 rfl rfl rfl (OpJ.extract rfl rfl rfl) ?_
            refine AList.c 22 rfl rfl rfl (OpJ.assign rfl rfl) ?_
            refine AList.c 23 rfl rfl rfl (OpJ.assign rfl rfl) ?_
            refine AList.nil ?_
            refine AWp.seq ?_
            refine AWp.seq ?_
            refine AWp.region ?_
            refine AList.c 146 rfl rfl rfl (OpJ.fieldAddr rfl rfl fd25_0 rfl) ?_
            refine AList.c 147 rfl rfl rfl (OpJ.load rfl rfl ty3 rfl) ?_
            refine AList.c 148 rfl rfl rfl (OpJ.fieldAddr rfl rfl fd25_0 rfl) ?_
            refine AList.c 149 rfl rfl rfl (OpJ.load rfl rfl ty3 rfl) ?_
            refine AList.c 150 rfl rfl rfl (OpJ.lss rfl rfl rfl) ?_
            refine AList.c 151 rfl rfl rfl (OpJ.move rfl rfl) ?_
            refine AList.g 152 151 rfl rfl rfl rfl rfl rfl rfl [(20, _)] (fun h => And.intro (.inl rfl) (trivial)) (fun h => (OpJ.fieldAddr rfl rfl fd25_1 rfl)) ?_
            refine AList.g 153 151 rfl rfl rfl rfl rfl rfl rfl [(152, _)] (fun h => And.intro (.inr ⟨_, rfl, h⟩) (trivial)) (fun h => (OpJ.load rfl rfl ty3 rfl)) ?_
            refine AList.g 154 151 rfl rfl rfl rfl rfl rfl rfl [(11, _)] (fun h => And.intro (.inl rfl) (trivial)) (fun h => (OpJ.fieldAddr rfl rfl fd25_1 rfl)) ?_
            refine AList.g 155 151 rfl rfl rfl rfl rfl rfl rfl [(154, _)] (fun h => And.intro (.inr ⟨_, rfl, h⟩) (trivial)) (fun h => (OpJ.load rfl rfl ty3 rfl)) ?_
            refine AList.g 156 151 rfl rfl rfl rfl rfl rfl rfl [(153, _), (155, _)] (fun h => And.intro (.inr ⟨_, rfl, h⟩) (And.intro (.inr ⟨_, rfl, h⟩) (trivial))) (fun h => (OpJ.gtr rfl rfl rfl)) ?_
            refine AList.c 157 rfl rfl rfl (OpJ.or_ rfl rfl rfl ?_) ?_
            · first | (intro h; rw [h]; rfl) | (intro h; simp_all)
            refine AList.c 158 rfl rfl rfl (OpJ.move rfl rfl) ?_
            refine AList.g 159 158 rfl rfl rfl rfl rfl rfl rfl [(23, _)] (fun h => And.intro (.inl rfl) (trivial)) (fun h => (OpJ.move rfl rfl)) ?_
            refine AList.g 160 158 rfl rfl rfl rfl rfl rfl rfl [(14, _)] (fun h => And.intro (.inl rfl) (trivial)) (fun h => (OpJ.move rfl rfl)) ?_
            refine AList.g 161 158 rfl rfl rfl rfl rfl rfl rfl [(159, _), (160, _)] (fun h => And.intro (.inr ⟨_, rfl, h⟩) (And.intro (.inr ⟨_, rfl, h⟩) (trivial))) (fun h => (OpJ.neq rfl rfl rfl)) ?_
            refine AList.c 162 rfl rfl rfl (OpJ.or_ rfl rfl rfl ?_) ?_
            · first | (intro h; rw [h]; rfl) | (intro h; simp_all)
            refine AList.nil ?_
            refine AWp.cond _ rfl (fun hc6 => ?_) (fun hc6 => ?_)
            · skip
              exfalso
              have h1 := hM.lo
              have h2 := hM.hi
              simp [hM.e] at hc6
              omega
            · skip
              obtain ⟨P, hP⟩ := hM.p
              have hnd := hM.d
              have hnl := hasR_len c s (moreX l mo y i)
              obtain ⟨now, hnow⟩ : ∃ now, now = (hasR c s (moreX l mo y i)).1 := ⟨_, rfl⟩
              rw [← hnow] at hP hnd hnl
              rw [← hnow]
              refine AWp.skip ?_
              refine AWp.seq ?_
              refine AWp.region ?_
              refine AList.c 24 rfl rfl rfl (OpJ.assign rfl rfl) ?_
              refine AList.nil ?_
              refine AWp.seq ?_
              refine AWp.seq ?_
              refine AWp.region ?_
              refine AList.c 163 rfl rfl rfl (OpJ.move rfl rfl) ?_
              refine AList.c 164 rfl rfl rfl (OpJ.lenSlice rfl rfl sl34 rfl) ?_
              refine AList.c 165 rfl rfl rfl (OpJ.move rfl rfl) ?_
              refine AList.nil ?_
              refine AWp.block ?_
              refine AWp.loopHL [0, 2, 4, 6, 10, 11, 13, 14, 21, 22, 23, 27, 28, 29, 30, 31, 32, 33, 34, 35, 36, 119, 120, 121, 122, 123, 124, 125, 126, 127, 128, 129, 130, 131, 132, 133, 134, 135, 136, 137, 138, 139, 140, 141, 142, 143, 144, 145, 147, 148, 149, 150, 151, 153, 154, 155, 156, 157, 158, 159, 160, 161, 162, 163, 164, 184, 185, 186, 187, 188, 189, 190, 191, 192, 193, 194, 195, 196, 197, 198, 199, 200, 201, 202, 203, 204, 205, 206, 207, 208, 209, 210, 211, 212, 213, 214, 215, 216, 217, 218, 219, 220, 221, 222, 223, 224, 225, 226, 227, 228, 229, 230, 231, 232, 233, 234, 235, 236, 237, 238, 239, 240, 241, 242, 243, 244, 245, 246, 247, 248, 249, 250, 251, 252, 253, 254, 255, 256, 257, 258, 259, 260, 261, 262, 263, 264, 265, 266, 267, 268, 269, 270, 271, 272, 273, 274, 275, 276, 277, 278, 279, 280, 281, 282, 283, 284, 285, 286, 287, 288, 289, 290, 291, 292, 293, 294, 295, 296, 297, 298, 299, 300, 301, 302, 303, 304, 305, 306, 307, 308, 309] (fun g => [(165, .p (.int .i64 ((g : Nat) : Int))), (24, .p (.int .i64 ((atF P now g : Nat) : Int)))]) (fun g => [.cells [.p (.int .i64 (blk c l).1), .p (.int .i64 (blk c l).2)] 25]) (fun g => g ≤ now.length) (fun g => now.length - g) 0 (Nat.zero_le _) (To.done [0] rfl (by repeat (first | exact Sub.nil | refine Sub.cons rfl ?_)) rfl) (fun k hh => ?_)
              refine AWp.seq ?_
              refine AWp.region ?_
              refine AList.c 166 rfl rfl rfl (OpJ.lss rfl rfl rfl) ?_
              refine AList.nil ?_
              refine AWp.seq ?_
              refine AWp.cond _ rfl (fun hc7 => ?_) (fun hc7 => ?_)
              · skip
                have hk1 : k < now.length := by have h := of_decide_eq_true hc7; omega
                have hH := atF_hit (P := P) hnd hk1
                rw [← hP] at hH
                have hS := atF_succ (P := P) hk1
                have hle := atF_le2 P now k
                refine AWp.skip ?_
                refine AWp.seq ?_
                refine AWp.block ?_
                refine AWp.seq ?_
                refine AWp.region ?_
                refine AList.c 167 rfl rfl rfl (OpJ.indexG (g := nt now) (fun _ h => nt_get h) rfl rfl rfl sl34 el34 rfl (fun _ => rfl) (by decide) hk1) ?_
                refine AList.c 168 rfl rfl rfl (OpJ.load rfl rfl ty3 rfl) ?_
                refine AList.c 26 rfl rfl rfl (OpJ.assign rfl rfl) ?_
                refine AList.nil ?_
                refine AWp.seq ?_
                refine AWp.region ?_
                refine AList.c 169 rfl rfl rfl (OpJ.move rfl rfl) ?_
                refine AList.c 170 rfl rfl rfl (OpJ.move rfl rfl) ?_
                refine AList.c 171 rfl rfl rfl (OpJ.lenSlice rfl rfl sl34 rfl) ?_
                refine AList.c 172 rfl rfl rfl (OpJ.lss rfl rfl rfl) ?_
                refine AList.c 173 rfl rfl rfl (OpJ.move rfl rfl) ?_
                refine AList.g 174 173 rfl rfl rfl rfl rfl rfl rfl [(13, _)] (fun h => And.intro (.inl rfl) (trivial)) (fun h => (OpJ.move rfl rfl)) ?_
                refine AList.g 175 173 rfl rfl rfl rfl rfl rfl rfl [(24, _)] (fun h => And.intro (.inl rfl) (trivial)) (fun h => (OpJ.move rfl rfl)) ?_
                refine AList.g 176 173 rfl rfl rfl rfl rfl rfl rfl [(174, _), (175, _)] (fun h => And.intro (.inr ⟨_, rfl, h⟩) (And.intro (.inr ⟨_, rfl, h⟩) (trivial))) (fun h => (OpJ.indexG (g := nt (hasR c s l).1) (fun _ h => nt_get h) rfl rfl rfl sl34 el34 rfl (fun _ => rfl) (by decide) (Int.ofNat_lt.1 (of_decide_eq_true (beq_iff_eq.1 h))))) ?_
                refine AList.g 177 173 rfl rfl rfl rfl rfl rfl rfl [(176, _)] (fun h => And.intro (.inr ⟨_, rfl, h⟩) (trivial)) (fun h => (OpJ.load rfl rfl ty3 rfl)) ?_
                refine AList.g 178 173 rfl rfl rfl rfl rfl rfl rfl [(26, _)] (fun h => And.intro (.inl rfl) (trivial)) (fun h => (OpJ.move rfl rfl)) ?_
                refine AList.g 179 173 rfl rfl rfl rfl rfl rfl rfl [(177, _), (178, _)] (fun h => And.intro (.inr ⟨_, rfl, h⟩) (And.intro (.inr ⟨_, rfl, h⟩) (trivial))) (fun h => (OpJ.eql rfl rfl rfl)) ?_
                refine AList.c 180 rfl rfl rfl (OpJ.and_ rfl rfl rfl ?_) ?_
                · first | (intro h; rw [h]; rfl) | (intro h; simp_all)
                refine AList.nil ?_
                refine AWp.cond _ rfl (fun hc8 => ?_) (fun hc8 => ?_)
                · skip
                  have hPv : P (nt now k) = true := by rw [← hH]; simpa using hc8
                  rw [if_pos hPv] at hS
                  refine AWp.region ?_
                  refine AList.c 181 rfl rfl rfl (OpJ.move rfl rfl) ?_
                  refine AList.c 182 rfl rfl rfl (OpJ.add (m := ((atF P now k + 1 : Nat) : Int)) rfl rfl rfl ((i64ok ?_).trans ?_)) ?_
                  · omega
                  · omega
                  refine AList.c 24 rfl rfl rfl (OpJ.assign rfl rfl) ?_
                  refine AList.nil ?_
                  refine AWp.region ?_
                  refine AList.c 183 rfl rfl rfl (OpJ.add rfl rfl rfl (i64ok ?_)) ?_
                  · omega
                  refine AList.c 165 rfl rfl rfl (OpJ.move rfl rfl) ?_
                  refine AList.nil ?_
                  refine ⟨k + 1, ?_, ?_, ?_⟩
                  · omega
                  · omega
                  exact To.done [0] rfl (Sub.cons rfl (Sub.cons (by rw [hS]; rfl) (by repeat (first | exact Sub.nil | refine Sub.cons rfl ?_)))) rfl
                · skip
                  have hPv : P (nt now k) = false := by rw [← hH]; simpa using hc8
                  rw [if_neg (by rw [hPv]; decide)] at hS
                  refine AWp.skip ?_
                  refine AWp.region ?_
                  refine AList.c 183 rfl rfl rfl (OpJ.add rfl rfl rfl (i64ok ?_)) ?_
                  · omega
                  refine AList.c 165 rfl rfl rfl (OpJ.move rfl rfl) ?_
                  refine AList.nil ?_
                  refine ⟨k + 1, ?_, ?_, ?_⟩
                  · omega
                  · omega
                  exact To.done [0] rfl (Sub.cons rfl (Sub.cons (by rw [hS]; rfl) (by repeat (first | exact Sub.nil | refine Sub.cons rfl ?_)))) rfl
              · skip
                obtain rfl : k = now.length := by have h := of_decide_eq_false hc7; omega
                refine AWp.exit ?_
                refine AWp.seq ?_
                refine AWp.region ?_
                refine AList.c 184 rfl rfl rfl (OpJ.move rfl rfl) ?_
                refine AList.c 185 rfl rfl rfl (OpJ.move rfl rfl) ?_
                refine AList.c 186 rfl rfl rfl (OpJ.lenSlice rfl rfl sl34 rfl) ?_
                refine AList.c 187 rfl rfl rfl (OpJ.neq rfl rfl rfl) ?_
                refine AList.nil ?_
                refine AWp.cond _ rfl (fun hc9 => ?_) (fun hc9 => ?_)
                · skip
                  exfalso
                  rw [atF_all, ← hP] at hc9
                  simp at hc9
                · skip
                  refine AWp.skip ?_
                  refine AWp.region ?_
                  refine AList.c 188 rfl rfl rfl (OpJ.add rfl rfl rfl (i64ok ?_)) ?_
                  · omega
                  refine AList.c 121 rfl rfl rfl (OpJ.move rfl rfl) ?_
                  refine AList.nil ?_
                  refine ⟨i + 1, ?_, ?_, ?_⟩
                  · omega
                  · omega
                  exact To.done [0] rfl (by repeat (first | exact Sub.nil | refine Sub.cons rfl ?_)) rfl
        · skip
          refine AWp.exit ?_
          refine AWp.seq ?_
          refine AWp.regionDrawG 8 3 [1, 2, 3] [([], false), ([], false), ([], false), ([1], true), ([2], true), ([3], true), ([1], true), ([2], true)] mixed (by kernel_rfl) (by decide) (by kernel_rfl) rfl rfl ?_
          refine AQG.cons 189 rfl rfl rfl (fun _ => (OpJ.load (v := .p (ldV l)) rfl rfl ty28 rfl)) rfl ?_
          refine AQG.cons 190 rfl rfl rfl (fun _ => (OpJ.load (v := .p (ldV l)) rfl rfl ty28 rfl)) rfl ?_
          refine AQG.cons 191 rfl rfl rfl (fun _ => (OpJ.load (v := .p (ldV l)) rfl rfl ty28 rfl)) rfl ?_
          refine AQG.lay (v0 := .ptr 4 0) 27 1 rfl rfl rfl rfl rfl rfl rfl rfl (fun _ => (OpJ.allocOwn rfl zr28 rfl)) rfl rfl rfl ?_
          refine AQG.lay (v0 := .ptr 4 0) 28 2 rfl rfl rfl rfl rfl rfl rfl rfl (fun _ => (OpJ.allocOwn rfl zr28 rfl)) rfl rfl rfl ?_
          refine AQG.lay (v0 := .ptr 4 0) 29 3 rfl rfl rfl rfl rfl rfl rfl rfl (fun _ => (OpJ.allocOwn rfl zr28 rfl)) rfl rfl rfl ?_
          refine AQG.put 1 rfl rfl rfl rfl (fun _ => (OpJ.store rfl rfl rfl rfl rfl ty28 rfl rfl)) rfl rfl ?_
          refine AQG.put 2 rfl rfl rfl rfl (fun _ => (OpJ.store rfl rfl rfl rfl rfl ty28 rfl rfl)) rfl rfl ?_
          refine AQG.nil ?_
          refine AList.c0 rfl rfl (OpJ.store rfl rfl rfl rfl rfl ty28 rfl rfl) ?_
          refine AList.nil ?_
          refine AWp.seq ?_
          refine AWp.norm [0, 1, 2, 3] [(0, _), (2, _), (4, _), (6, _), (11, _), (27, _), (28, _), (29, _)] [.cells [.p (.int .i64 (blk c l).1), .p (.int .i64 (blk c l).2)] 25, .cells ((l).cells.map .p) 28, .cells ((l).cells.map .p) 28, .cells ((l).cells.map .p) 28] rfl (by repeat (first | exact Sub.nil | refine Sub.cons rfl ?_)) rfl ?_
          refine AWp.regionDraw 19 mixed (by kernel_rfl) (by decide) ?_
          refine AQuiet.cons 192 rfl rfl rfl (OpJ.fieldAddr rfl rfl fd28_0 rfl) ?_
          refine AQuiet.cons 193 rfl rfl rfl (OpJ.fieldAddr rfl rfl fd25_0 rfl) ?_
          refine AQuiet.cons 194 rfl rfl rfl (OpJ.load rfl rfl ty3 rfl) ?_
          refine AQuiet.cons 195 rfl rfl rfl (OpJ.mul rfl rfl rfl (i64ok ?_)) ?_
          · omega
          refine AQuiet.cons 196 rfl rfl rfl (OpJ.fieldAddr rfl rfl fd28_0 rfl) ?_
          refine AQuiet.cons 197 rfl rfl rfl (OpJ.fieldAddr rfl rfl fd25_1 rfl) ?_
          refine AQuiet.cons 198 rfl rfl rfl (OpJ.load rfl rfl ty3 rfl) ?_
          refine AQuiet.cons 199 rfl rfl rfl (OpJ.mul rfl rfl rfl (i64ok ?_)) ?_
          · omega
          refine AQuiet.cons 200 rfl rfl rfl (OpJ.callP (lspan_ok _ _) rfl rfl rfl rfl rf25) ?_
          refine AQuiet.cons 201 rfl rfl rfl (OpJ.fieldAddr rfl rfl fd28_1 rfl) ?_
          refine AQuiet.cons 202 rfl rfl rfl (OpJ.fieldAddr rfl rfl fd25_0 rfl) ?_
          refine AQuiet.cons 203 rfl rfl rfl (OpJ.load rfl rfl ty3 rfl) ?_
          refine AQuiet.cons 204 rfl rfl rfl (OpJ.mul rfl rfl rfl (i64ok ?_)) ?_
          · omega
          refine AQuiet.cons 205 rfl rfl rfl (OpJ.fieldAddr rfl rfl fd28_1 rfl) ?_
          refine AQuiet.cons 206 rfl rfl rfl (OpJ.fieldAddr rfl rfl fd25_1 rfl) ?_
          refine AQuiet.cons 207 rfl rfl rfl (OpJ.load rfl rfl ty3 rfl) ?_
          refine AQuiet.cons 208 rfl rfl rfl (OpJ.mul rfl rfl rfl (i64ok ?_)) ?_
          · omega
          refine AQuiet.cons 209 rfl rfl rfl (OpJ.callP (lspan_ok _ _) rfl rfl rfl rfl rf25) ?_
          refine AQuiet.cons 210 rfl rfl rfl (OpJ.fieldAddr rfl rfl fd28_0 rfl) ?_
          refine AQuiet.nil ?_
          refine AList.c0 rfl rfl (OpJ.store rfl rfl rfl rfl rfl ty25 rfl rfl) ?_
          refine AList.c 211 rfl rfl rfl (OpJ.fieldAddr rfl rfl fd28_1 rfl) ?_
          refine AList.c0 rfl rfl (OpJ.store rfl rfl rfl rfl rfl ty25 rfl rfl) ?_
          refine AList.nil ?_
          refine AWp.seq ?_
          refine AWp.norm [0, 1, 2, 3] [(0, _), (2, _), (4, _), (6, _), (11, _), (27, _), (28, _), (29, _)] [.cells [.p (.int .i64 (blk c l).1), .p (.int .i64 (blk c l).2)] 25, .cells ((twiceL l).cells.map .p) 28, .cells ((l).cells.map .p) 28, .cells ((l).cells.map .p) 28] rfl (by repeat (first | exact Sub.nil | refine Sub.cons rfl ?_)) rfl ?_
          refine AWp.region ?_
          refine AList.c 212 rfl rfl rfl (OpJ.fieldAddr rfl rfl fd28_0 rfl) ?_
          refine AList.c 213 rfl rfl rfl (OpJ.fieldAddr rfl rfl fd25_0 rfl) ?_
          refine AList.c 214 rfl rfl rfl (OpJ.load rfl rfl ty3 rfl) ?_
          refine AList.c 215 rfl rfl rfl (OpJ.move rfl rfl) ?_
          refine AList.c 216 rfl rfl rfl (OpJ.convInt rfl rfl (by rw [un5]; rfl) un3 (i64ok ?_)) ?_
          · omega
          refine AList.c 217 rfl rfl rfl (OpJ.add rfl rfl rfl (i64ok ?_)) ?_
          · omega
          refine AList.c 218 rfl rfl rfl (OpJ.fieldAddr rfl rfl fd28_0 rfl) ?_
          refine AList.c 219 rfl rfl rfl (OpJ.fieldAddr rfl rfl fd25_1 rfl) ?_
          refine AList.c 220 rfl rfl rfl (OpJ.load rfl rfl ty3 rfl) ?_
          refine AList.c 221 rfl rfl rfl (OpJ.move rfl rfl) ?_
          refine AList.c 222 rfl rfl rfl (OpJ.convInt rfl rfl (by rw [un5]; rfl) un3 (i64ok ?_)) ?_
          · omega
          refine AList.c 223 rfl rfl rfl (OpJ.add rfl rfl rfl (i64ok ?_)) ?_
          · omega
          refine AList.c 224 rfl rfl rfl (OpJ.callP (lspan_ok _ _) rfl rfl rfl rfl rf25) ?_
          refine AList.c 225 rfl rfl rfl (OpJ.fieldAddr rfl rfl fd28_0 rfl) ?_
          refine AList.c0 rfl rfl (OpJ.store (H' := [.cells [.p (.int .i64 (blk c l).1), .p (.int .i64 (blk c l).2)] 25, .cells ((twiceL l).cells.map .p) 28, .cells ((darkL l y).cells.map .p) 28, .cells ((l).cells.map .p) 28]) rfl rfl rfl rfl rfl ty25 rfl rfl) ?_
          refine AList.nil ?_
          refine AWp.seq ?_
          refine AWp.region ?_
          refine AList.c 226 rfl rfl rfl (OpJ.fieldAddr rfl rfl fd28_3 rfl) ?_
          refine AList.c0 rfl rfl (OpJ.store (H' := [.cells [.p (.int .i64 (blk c l).1), .p (.int .i64 (blk c l).2)] 25, .cells ((twiceL l).cells.map .p) 28, .cells ((darkL l y).cells.map .p) 28, trnX l 0]) rfl rfl rfl rfl rfl ty26 rfl rfl) ?_
          refine AList.nil ?_
          refine AWp.seq ?_
          refine AWp.seq ?_
          refine AWp.region ?_
          refine AList.c 227 rfl rfl rfl (OpJ.fieldAddr rfl rfl fd28_3 rfl) ?_
          refine AList.c 228 rfl rfl rfl (OpJ.load (v := .p (stV l.st)) rfl rfl ty26 rfl) ?_
          refine AList.c 229 rfl rfl rfl (OpJ.lenSlice rfl rfl sl26 rfl) ?_
          refine AList.c 230 rfl rfl rfl (OpJ.move rfl rfl) ?_
          refine AList.nil ?_
          refine AWp.block ?_
          refine AWp.loopHL [0, 4, 6, 10, 11, 27, 28, 29, 31, 32, 33, 34, 35, 36, 229, 251, 252, 253, 254, 255, 256, 257, 258, 259, 260, 261, 262, 263, 264, 265, 266, 267, 268, 269, 270, 271, 272, 273, 274, 275, 276, 277, 278, 279, 280, 281, 282, 283, 284, 285, 286, 287, 288, 289, 290, 291, 292, 293, 294, 295, 296, 297, 298, 299, 300, 301, 302, 303, 304, 305, 306, 307, 308, 309] (fun g => [(230, .p (.int .i64 ((g : Nat) : Int)))]) (fun g => [.cells [.p (.int .i64 (blk c l).1), .p (.int .i64 (blk c l).2)] 25, .cells ((twiceL l).cells.map .p) 28, .cells ((darkL l y).cells.map .p) 28, trnX l g, accB (((turnS l.st y g).flatMap Stk.cells).map .p) 51 g]) (fun g => g ≤ l.st.length) (fun g => l.st.length - g) 0 (Nat.zero_le _) (To.pad.trans (To.sub (Sub.chk (Sub.cons rfl Sub.nil)))) (fun i hg => ?_)
          refine AWp.seq ?_
          refine AWp.region ?_
          refine AList.c 231 rfl rfl rfl (OpJ.lss rfl rfl rfl) ?_
          refine AList.nil ?_
          refine AWp.seq ?_
          refine AWp.cond _ rfl (fun hc10 => ?_) (fun hc10 => ?_)
          · skip
            have hk0 : i < l.st.length := by have h := of_decide_eq_true hc10; omega
            have hkm := Nat.mod_lt (i + y) (show 0 < l.st.length by omega)
            refine AWp.skip ?_
            refine AWp.seq ?_
            refine AWp.block ?_
            refine AWp.seq ?_
            refine AWp.region ?_
            refine AList.c 232 rfl rfl rfl (OpJ.move rfl rfl) ?_
            refine AList.c 30 rfl rfl rfl (OpJ.assign rfl rfl) ?_
            refine AList.nil ?_
            refine AWp.regionDraw 15 mixed (by kernel_rfl) (by decide) ?_
            refine AQuiet.cons 233 rfl rfl rfl (OpJ.fieldAddr rfl rfl fd28_3 rfl) ?_
            refine AQuiet.cons 234 rfl rfl rfl (OpJ.load (v := accV 4 i) rfl rfl ty26 rfl) ?_
            refine AQuiet.cons 235 rfl rfl rfl (OpJ.fieldAddr rfl rfl fd28_3 rfl) ?_
            refine AQuiet.cons 236 rfl rfl rfl (OpJ.load (v := .p (stV l.st)) rfl rfl ty26 rfl) ?_
            refine AQuiet.cons 237 rfl rfl rfl (OpJ.move rfl rfl) ?_
            refine AQuiet.cons 238 rfl rfl rfl (OpJ.move rfl rfl) ?_
            refine AQuiet.cons 239 rfl rfl rfl (OpJ.convInt rfl rfl (by rw [un5]; rfl) un3 (i64ok ?_)) ?_
            · omega
            refine AQuiet.cons 240 rfl rfl rfl (OpJ.add (m := ((i + y : Nat) : Int)) rfl rfl rfl ((i64ok ?_).trans ?_)) ?_
            · omega
            · omega
            refine AQuiet.cons 241 rfl rfl rfl (OpJ.fieldAddr rfl rfl fd28_3 rfl) ?_
            refine AQuiet.cons 242 rfl rfl rfl (OpJ.load (v := .p (stV l.st)) rfl rfl ty26 rfl) ?_
            refine AQuiet.cons 243 rfl rfl rfl (OpJ.lenSlice rfl rfl sl26 rfl) ?_
            refine AQuiet.cons 244 rfl rfl rfl (OpJ.rem (m := (((i + y) % l.st.length : Nat) : Int)) rfl rfl rfl ?_ ?_) ?_
            · omega
            · exact tmodN _ _
            refine AQuiet.cons 245 rfl rfl rfl (OpJ.indexG (g := stk l.st) (fun _ h => stk_get h) rfl rfl rfl sl26 el26 rfl (fun _ => rfl) (by decide) hkm) ?_
            refine AQuiet.cons 246 rfl rfl rfl (OpJ.load (v := .p (.agg (stk l.st ((i + y) % l.st.length)).cells)) rfl rfl ty51 rfl) ?_
            refine AQuiet.cons 247 rfl rfl rfl (OpJ.buildImm rfl slz26 (by decide) rfl rfl rfl) ?_
            refine AQuiet.nil ?_
            refine AList.c 248 rfl rfl rfl (OpJ.appendAcc rfl rfl rfl slz26 sl26 rfl ?_ rfl (by decide) rfl by51 (by decide) ?_) ?_
            · rw [List.length_map, stk_len, turnS_len]; rfl
            · show (2 * (i + 1) + 192) * 32 ≤ 281474976710656; omega
            refine AList.c 249 rfl rfl rfl (OpJ.fieldAddr rfl rfl fd28_3 rfl) ?_
            refine AList.c0 rfl rfl (OpJ.store rfl rfl rfl rfl rfl ty26 rfl rfl) ?_
            refine AList.nil ?_
            refine AWp.region ?_
            refine AList.c 250 rfl rfl rfl (OpJ.add rfl rfl rfl (i64ok ?_)) ?_
            · omega
            refine AList.c 230 rfl rfl rfl (OpJ.move rfl rfl) ?_
            refine AList.nil ?_
            refine ⟨i + 1, ?_, ?_, ?_⟩
            · omega
            · omega
            refine To.done [0, 1, 2, 3, 5] rfl (by repeat (first | exact Sub.nil | refine Sub.cons rfl ?_)) ?_
            show (_ : Blk) :: _ :: _ :: _ :: [_] = _ :: _ :: _ :: _ :: [_]
            refine List.cons_eq_cons.2 ⟨rfl, ?_⟩
            refine List.cons_eq_cons.2 ⟨rfl, ?_⟩
            refine List.cons_eq_cons.2 ⟨rfl, ?_⟩
            refine List.cons_eq_cons.2 ⟨rfl, ?_⟩
            show [Blk.row (renL _ (_ ++ _)) _] = [Blk.row _ _]
            rw [renL_app, renL_pure, turnS_succ, List.flatMap_append, List.map_append]
            rfl
          · skip
            obtain rfl : l.st.length = i := by have h := of_decide_eq_false hc10; omega
            refine AWp.to (To.accC 4 3 (xs := (turnS l.st y l.st.length).flatMap Stk.cells) (n := l.st.length) (a := xA l) (b := xB l) [(0, .p (curV c)), (11, .ptr 0 0), (27, .ptr 1 0), (28, .ptr 2 0), (29, .ptr 3 0)] (by decide) rfl rfl (fun h => by rw [h]; rfl) rfl rfl (by repeat (first | exact Sub.nil | refine Sub.cons rfl ?_)) (by repeat (first | exact Sub.nil | refine Sub.cons rfl ?_))) ?_
            rw [turn_val]
            refine AWp.exit ?_
            refine AWp.seq ?_
            refine AWp.seq ?_
            refine AWp.region ?_
            refine AList.c 252 rfl rfl rfl (OpJ.move rfl rfl) ?_
            refine AList.c 253 rfl rfl rfl (OpJ.load (v := .p (ldV (twiceL l))) rfl rfl ty28 rfl) ?_
            refine AList.c 254 rfl rfl rfl (OpJ.callP (black_R c (twiceL l) hcb hs) rfl rfl rfl rfl rf15) ?_
            refine AList.c 251 rfl rfl rfl (OpJ.move rfl rfl) ?_
            refine AList.c 255 rfl rfl rfl (OpJ.extract rfl rfl rfl) ?_
            refine AList.c 256 rfl rfl rfl (OpJ.extract rfl rfl rfl) ?_
            refine AList.c 31 rfl rfl rfl (OpJ.allocOwn rfl zr25 rfl) ?_
            refine AList.c0 rfl rfl (OpJ.store rfl rfl rfl rfl rfl ty25 rfl rfl) ?_
            refine AList.c 32 rfl rfl rfl (OpJ.assign rfl rfl) ?_
            refine AList.nil ?_
            refine AWp.seq ?_
            refine AWp.region ?_
            refine AList.c 257 rfl rfl rfl (OpJ.load (v := .p (ldV (twiceL l))) rfl rfl ty28 rfl) ?_
            refine AList.c 258 rfl rfl rfl (OpJ.callP (rleads_ok (twiceL l) hs) rfl rfl rfl rfl rf29) ?_
            refine AList.c 259 rfl rfl rfl (OpJ.move rfl rfl) ?_
            refine AList.g 260 259 rfl rfl rfl rfl rfl rfl rfl [(31, _)] (fun h => And.intro (.inl rfl) (trivial)) (fun h => (OpJ.load rfl rfl ty25 rfl)) ?_
            refine AList.g 261 259 rfl rfl rfl rfl rfl rfl rfl [(11, _)] (fun h => And.intro (.inl rfl) (trivial)) (fun h => (OpJ.load rfl rfl ty25 rfl)) ?_
            refine AList.g 262 259 rfl rfl rfl rfl rfl rfl rfl [(260, _), (261, _)] (fun h => And.intro (.inr ⟨_, rfl, h⟩) (And.intro (.inr ⟨_, rfl, h⟩) (trivial))) (fun h => (OpJ.eqAgg (d := 8) rfl (.inr rfl) rfl rfl (by decide) eq25 ty25 rfl eg25 rfl)) ?_
            refine AList.g 263 259 rfl rfl rfl rfl rfl rfl rfl [(262, _)] (fun h => And.intro (.inr ⟨_, rfl, h⟩) (trivial)) (fun h => (OpJ.move rfl rfl)) ?_
            refine AList.g 264 263 rfl rfl rfl rfl rfl rfl rfl [(32, _)] (fun h => And.intro (.inl rfl) (trivial)) (fun h => (OpJ.move rfl rfl)) ?_
            refine AList.g 265 263 rfl rfl rfl rfl rfl rfl rfl [(264, _)] (fun h => And.intro (.inr ⟨_, rfl, h⟩) (trivial)) (fun h => (OpJ.neq rfl rfl rfl)) ?_
            refine AList.g 266 259 rfl rfl rfl rfl rfl rfl rfl [(263, _), (265, _)] (fun h => And.intro (.inr ⟨_, rfl, h⟩) (And.intro (.inl rfl) (trivial))) (fun h => (OpJ.or_ rfl rfl rfl ?_)) ?_
            · first | (intro h; rw [h]; rfl) | (intro h; simp_all)
            refine AList.c 267 rfl rfl rfl (OpJ.and_ rfl rfl rfl ?_) ?_
            · first | (intro h; rw [h]; rfl) | (intro h; simp_all)
            refine AList.nil ?_
            refine AWp.cond _ rfl (fun hc11 => ?_) (fun hc11 => ?_)
            · skip
              exfalso
              by_cases hx : ldB (twiceL l) = true
              · rw [twice_ok e hx] at hc11
                simp at hc11
              · simp [hx] at hc11
            · skip
              refine AWp.skip ?_
              refine AWp.seq ?_
              refine AWp.seq ?_
              refine AWp.region ?_
              refine AList.c 269 rfl rfl rfl (OpJ.move rfl rfl) ?_
              refine AList.c 270 rfl rfl rfl (OpJ.load (v := .p (ldV (darkL l y))) rfl rfl ty28 rfl) ?_
              refine AList.c 271 rfl rfl rfl (OpJ.callP (black_R c (darkL l y) hcb hs) rfl rfl rfl rfl rf15) ?_
              refine AList.c 268 rfl rfl rfl (OpJ.move rfl rfl) ?_
              refine AList.c 272 rfl rfl rfl (OpJ.extract rfl rfl rfl) ?_
              refine AList.c 273 rfl rfl rfl (OpJ.extract rfl rfl rfl) ?_
              refine AList.c 33 rfl rfl rfl (OpJ.allocOwn rfl zr25 rfl) ?_
              refine AList.c0 rfl rfl (OpJ.store rfl rfl rfl rfl rfl ty25 rfl rfl) ?_
              refine AList.c 34 rfl rfl rfl (OpJ.assign rfl rfl) ?_
              refine AList.nil ?_
              refine AWp.seq ?_
              refine AWp.region ?_
              refine AList.c 274 rfl rfl rfl (OpJ.load (v := .p (ldV (darkL l y))) rfl rfl ty28 rfl) ?_
              refine AList.c 275 rfl rfl rfl (OpJ.callP (rleads_ok (darkL l y) hs) rfl rfl rfl rfl rf29) ?_
              refine AList.c 276 rfl rfl rfl (OpJ.move rfl rfl) ?_
              refine AList.g 277 276 rfl rfl rfl rfl rfl rfl rfl [(34, _)] (fun h => And.intro (.inl rfl) (trivial)) (fun h => (OpJ.move rfl rfl)) ?_
              refine AList.g 278 276 rfl rfl rfl rfl rfl rfl rfl [(277, _)] (fun h => And.intro (.inr ⟨_, rfl, h⟩) (trivial)) (fun h => (OpJ.eql rfl rfl rfl)) ?_
              refine AList.c 279 rfl rfl rfl (OpJ.and_ rfl rfl rfl ?_) ?_
              · first | (intro h; rw [h]; rfl) | (intro h; simp_all)
              refine AList.c 280 rfl rfl rfl (OpJ.move rfl rfl) ?_
              refine AList.g 281 280 rfl rfl rfl rfl rfl rfl rfl [(33, _)] (fun h => And.intro (.inl rfl) (trivial)) (fun h => (OpJ.fieldAddr rfl rfl fd25_0 rfl)) ?_
              refine AList.g 282 280 rfl rfl rfl rfl rfl rfl rfl [(281, _)] (fun h => And.intro (.inr ⟨_, rfl, h⟩) (trivial)) (fun h => (OpJ.load rfl rfl ty3 rfl)) ?_
              refine AList.g 283 280 rfl rfl rfl rfl rfl rfl rfl [(11, _)] (fun h => And.intro (.inl rfl) (trivial)) (fun h => (OpJ.fieldAddr rfl rfl fd25_0 rfl)) ?_
              refine AList.g 284 280 rfl rfl rfl rfl rfl rfl rfl [(283, _)] (fun h => And.intro (.inr ⟨_, rfl, h⟩) (trivial)) (fun h => (OpJ.load rfl rfl ty3 rfl)) ?_
              refine AList.g 285 280 rfl rfl rfl rfl rfl rfl rfl [(282, _), (284, _)] (fun h => And.intro (.inr ⟨_, rfl, h⟩) (And.intro (.inr ⟨_, rfl, h⟩) (trivial))) (fun h => (OpJ.lss rfl rfl rfl)) ?_
              refine AList.g 286 280 rfl rfl rfl rfl rfl rfl rfl [(285, _)] (fun h => And.intro (.inr ⟨_, rfl, h⟩) (trivial)) (fun h => (OpJ.move rfl rfl)) ?_
              refine AList.g 287 286 rfl rfl rfl rfl rfl rfl rfl [(33, _)] (fun h => And.intro (.inl rfl) (trivial)) (fun h => (OpJ.fieldAddr rfl rfl fd25_1 rfl)) ?_
              refine AList.g 288 286 rfl rfl rfl rfl rfl rfl rfl [(287, _)] (fun h => And.intro (.inr ⟨_, rfl, h⟩) (trivial)) (fun h => (OpJ.load rfl rfl ty3 rfl)) ?_
              refine AList.g 289 286 rfl rfl rfl rfl rfl rfl rfl [(11, _)] (fun h => And.intro (.inl rfl) (trivial)) (fun h => (OpJ.fieldAddr rfl rfl fd25_1 rfl)) ?_
              refine AList.g 290 286 rfl rfl rfl rfl rfl rfl rfl [(289, _)] (fun h => And.intro (.inr ⟨_, rfl, h⟩) (trivial)) (fun h => (OpJ.load rfl rfl ty3 rfl)) ?_
              refine AList.g 291 286 rfl rfl rfl rfl rfl rfl rfl [(288, _), (290, _)] (fun h => And.intro (.inr ⟨_, rfl, h⟩) (And.intro (.inr ⟨_, rfl, h⟩) (trivial))) (fun h => (OpJ.lss rfl rfl rfl)) ?_
              refine AList.g 292 280 rfl rfl rfl rfl rfl rfl rfl [(286, _), (291, _)] (fun h => And.intro (.inr ⟨_, rfl, h⟩) (And.intro (.inl rfl) (trivial))) (fun h => (OpJ.or_ rfl rfl rfl ?_)) ?_
              · first | (intro h; rw [h]; rfl) | (intro h; simp_all)
              refine AList.c 293 rfl rfl rfl (OpJ.and_ rfl rfl rfl ?_) ?_
              · first | (intro h; rw [h]; rfl) | (intro h; simp_all)
              refine AList.nil ?_
              refine AWp.cond _ rfl (fun hc12 => ?_) (fun hc12 => ?_)
              · skip
                exfalso
                by_cases hx : ldB (darkL l y) = true
                · by_cases hz : (blackR c (darkL l y)).2 = 0
                  · have h1 := dark_ok e y hx
                    rw [blackR_fst hz] at hc12
                    simp [hx, hz] at hc12
                    omega
                  · simp [hz] at hc12
                · simp [hx] at hc12
              · skip
                refine AWp.skip ?_
                refine AWp.seq ?_
                refine AWp.region ?_
                refine AList.c 295 rfl rfl rfl (OpJ.move rfl rfl) ?_
                refine AList.c 296 rfl rfl rfl (OpJ.load (v := .p (ldV (turnedL l y))) rfl rfl ty28 rfl) ?_
                refine AList.c 297 rfl rfl rfl (OpJ.callP (black_R c (turnedL l y) hcb (by show (turnS _ _ _).length ≤ _; rw [turnS_len]; exact hs)) rfl rfl rfl rfl rf15) ?_
                refine AList.c 294 rfl rfl rfl (OpJ.move rfl rfl) ?_
                refine AList.c 298 rfl rfl rfl (OpJ.extract rfl rfl rfl) ?_
                refine AList.c 299 rfl rfl rfl (OpJ.extract rfl rfl rfl) ?_
                refine AList.c 35 rfl rfl rfl (OpJ.allocOwn rfl zr25 rfl) ?_
                refine AList.c0 rfl rfl (OpJ.store rfl rfl rfl rfl rfl ty25 rfl rfl) ?_
                refine AList.c 36 rfl rfl rfl (OpJ.assign rfl rfl) ?_
                refine AList.nil ?_
                refine AWp.seq ?_
                rw [turned_ok e y]
                refine AWp.region ?_
                refine AList.c 300 rfl rfl rfl (OpJ.load rfl rfl ty25 rfl) ?_
                refine AList.c 301 rfl rfl rfl (OpJ.load rfl rfl ty25 rfl) ?_
                refine AList.c 302 rfl rfl rfl (OpJ.eqAgg (d := 8) rfl (.inl rfl) rfl rfl (by decide) eq25 ty25 rfl eg25 rfl) ?_
                refine AList.c 303 rfl rfl rfl (OpJ.move rfl rfl) ?_
                refine AList.g 304 303 rfl rfl rfl rfl rfl rfl rfl [(36, _)] (fun h => And.intro (.inl rfl) (trivial)) (fun h => (OpJ.move rfl rfl)) ?_
                refine AList.g 305 303 rfl rfl rfl rfl rfl rfl rfl [(304, _)] (fun h => And.intro (.inr ⟨_, rfl, h⟩) (trivial)) (fun h => (OpJ.eql rfl rfl rfl)) ?_
                refine AList.c 306 rfl rfl rfl (OpJ.and_ rfl rfl rfl ?_) ?_
                · first | (intro h; rw [h]; rfl) | (intro h; simp_all)
                refine AList.c 307 rfl rfl rfl (OpJ.move rfl rfl) ?_
                refine AList.g 308 307 rfl rfl rfl rfl rfl rfl rfl [] (fun h => trivial) (fun h => (OpJ.callP (alive_ok) rfl rfl rfl rfl rf14)) ?_
                refine AList.c 309 rfl rfl rfl (OpJ.and_ rfl rfl rfl ?_) ?_
                · first | (intro h; rw [h]; rfl) | (intro h; simp_all)
                refine AList.c 10 rfl rfl rfl (OpJ.assign rfl rfl) ?_
                refine AList.nil ?_
                refine AWp.ret ?_
                refine Fin.oneE rfl rfl ?_
                simp
theorem shadeMore_law {x0 x1 x2 x3 x4 : List PV} (h0 : TyL [.sl [.leaf (.int .i64), .leaf (.int .i64)]] x0) (h1 : TyL [.leaf (.int .i64), .leaf (.int .i64), .leaf (.int .i64), .leaf (.int .i64), .leaf (.int .i64), .sl [.leaf (.int .i64), .leaf (.int .i64), .leaf (.int .i64), .leaf (.int .i64)], .leaf (.int .i64), .leaf (.int .i64), .leaf (.int .i64), .leaf (.int .i64), .leaf (.int .i64)] x1) (h2 : TyL [.sl [.leaf (.int .i64), .leaf (.int .i64), .leaf (.int .i64), .leaf (.int .i64), .leaf (.int .i64), .leaf (.int .i64)]] x2) (h3 : TyL [.leaf (.int .i64), .leaf (.int .i64), .leaf (.int .i64), .leaf (.int .i64)] x3) (h4 : TyL [.leaf (.int .u8)] x4) : Pure Try.prog 10 [argP false x0, argP true x1, argP false x2, argP true x3, argP false x4] (.bool true) := by
  obtain ⟨c, rfl, hc⟩ := cur_of h0
  obtain ⟨l, rfl, hl⟩ := ld_of h1
  obtain ⟨s, rfl, hs⟩ := shds_of h2
  obtain ⟨mo, rfl⟩ := stk_of h3
  obtain ⟨y, rfl, hy⟩ := u8_of h4
  exact shadeMore_main c l s mo y hc hl hs hy
end Go.Proofs.Ythiapodcippnoaa
