/-
  The law TopPacks.
  The law TopPacks, from its arguments.
-/
import Derived.Test.YtbnemnhmejmeeaaGreatDoorXqD
import Derived.Test.YtbnemnhmejmeeaaGreatDoorTqA
import Derived.Test.YtbnemnhmejmeeaaGreatDoorXqB
import Derived.Test.YtbnemnhmejmeeaaGreatDoorXqC
section
set_option linter.unusedVariables false
set_option maxRecDepth 100000
set_option maxHeartbeats 4000000
set_option linter.unusedSimpArgs false
namespace Go.Proofs.YtbnemnhmejmeeaaGreatDoor
open Go.AF
theorem cut_raw (x t : Bk.Bs) (h : ∀ b ∈ x, b ≠ 58) : Lib.indexByte (x ++ 58 :: t) 58 = x.length := idx_hit 58 x t h
theorem scut_ok (x t : Bk.Bs) (h : ∀ b ∈ x, b ≠ 58) (hx : x.length ≤ 1000000) : Pure Tryz.prog 57 [.str (sB (x ++ 58 :: t)), .str (sB [58])] (.tuple [.str (sB x), .str (sB t), .bool true]) := by
  have hi := cut_raw x t h
  have hB := hx
  have hl : (x ++ 58 :: t).length = x.length + 1 + t.length := by simp; omega
  refine Pure.start (N := 23) Tryz.func57 rfl rfl (Nat.le_of_ble_eq_true rfl) ?_
  refine AWp.seq ?_
  refine AWp.region ?_
  refine AList.c 4 rfl rfl rfl (OpJ.assign rfl rfl) ?_
  refine AList.c 5 rfl rfl rfl (OpJ.assign rfl rfl) ?_
  refine AList.c 6 rfl rfl rfl (OpJ.assign rfl rfl) ?_
  refine AList.nil ?_
  refine AWp.seq ?_
  refine AWp.seq ?_
  refine AWp.region ?_
  refine AList.c 8 rfl rfl rfl (OpJ.move rfl rfl) ?_
  refine AList.c 9 rfl rfl rfl (OpJ.move rfl rfl) ?_
  refine AList.c 10 rfl rfl rfl (OpJ.callP (index_ok (x ++ 58 :: t) 58) rfl rfl rfl rfl rf76) ?_
  rw [hi]
  refine AList.c 7 rfl rfl rfl (OpJ.assign rfl rfl) ?_
  refine AList.nil ?_
  refine AWp.seq ?_
  refine AWp.region ?_
  refine AList.c 11 rfl rfl rfl (OpJ.move rfl rfl) ?_
  refine AList.c 12 rfl rfl rfl (OpJ.geq rfl rfl rfl) ?_
  refine AList.nil ?_
  refine AWp.cond _ rfl (fun hc0 => ?_) (fun hc0 => ?_)
  · skip
    refine AWp.seq ?_
    refine AWp.regionDraw 12 mixed (by kernel_rfl) (by decide) ?_
    refine AQuiet.cons 13 rfl rfl rfl (OpJ.move rfl rfl) ?_
    refine AQuiet.cons 14 rfl rfl rfl (OpJ.move rfl rfl) ?_
    refine AQuiet.cons 15 rfl rfl rfl (OpJ.strCut (x ++ 58 :: t) 0 x.length rfl rfl st9 rfl ⟨_, rfl⟩ (Nat.zero_le _) (by omega)) ?_
    refine AQuiet.cons 16 rfl rfl rfl (OpJ.move rfl rfl) ?_
    refine AQuiet.cons 17 rfl rfl rfl (OpJ.move rfl rfl) ?_
    refine AQuiet.cons 18 rfl rfl rfl (OpJ.move rfl rfl) ?_
    refine AQuiet.cons 19 rfl rfl rfl (OpJ.lenStr rfl rfl un9) ?_
    refine AQuiet.cons 20 rfl rfl rfl (OpJ.add (m := ((x.length + 1 : Nat) : Int)) rfl rfl rfl ((i64ok ?_).trans ?_)) ?_
    · show _ ≤ ((x.length : Nat) : Int) + 1 ∧ ((x.length : Nat) : Int) + 1 ≤ _; omega
    · rfl
    refine AQuiet.cons 21 rfl rfl rfl (OpJ.strCut (x ++ 58 :: t) (x.length + 1) (x ++ 58 :: t).length rfl rfl st9 ⟨_, rfl⟩ rfl (by omega) (Nat.le_refl _)) ?_
    refine AQuiet.cons 4 rfl rfl rfl (OpJ.assign rfl rfl) ?_
    refine AQuiet.cons 5 rfl rfl rfl (OpJ.assign rfl rfl) ?_
    refine AQuiet.cons 6 rfl rfl rfl (OpJ.assign rfl rfl) ?_
    refine AQuiet.nil ?_
    refine AList.nil ?_
    refine AWp.ret ?_
    refine Fin.manyE (xs := [.str (sB (((x ++ 58 :: t).drop 0).take (x.length - 0))), .str (sB (((x ++ 58 :: t).drop (x.length + 1)).take ((x ++ 58 :: t).length - (x.length + 1)))), .bool true]) rfl (⟨_, _, rfl, rfl, ⟨_, _, rfl, rfl, ⟨_, _, rfl, rfl, rfl⟩⟩⟩) rfl ?_
    rw [List.drop_zero, Nat.sub_zero, List.take_left, show (x ++ 58 :: t).drop (x.length + 1) = t by rw [show x ++ 58 :: t = (x ++ [58]) ++ t by simp, show x.length + 1 = (x ++ [58]).length by simp, List.drop_left], List.take_of_length_le (by omega)]
  · skip
    exfalso
    have h := of_decide_eq_false hc0
    omega
theorem cut_ok (x t : Bk.Bs) (h : ∀ b ∈ x, b ≠ 58) (hx : x.length ≤ 1000000) : Pure Tryz.prog 20 [.str (sB (x ++ 58 :: t)), .str (sB [58])] (.tuple [.str (sB x), .str (sB t), .bool true]) := by
  refine Pure.start (N := 13) Tryz.func20 rfl rfl (Nat.le_of_ble_eq_true rfl) ?_
  refine AWp.seq ?_
  refine AWp.region ?_
  refine AList.c 4 rfl rfl rfl (OpJ.assign rfl rfl) ?_
  refine AList.c 5 rfl rfl rfl (OpJ.assign rfl rfl) ?_
  refine AList.c 6 rfl rfl rfl (OpJ.assign rfl rfl) ?_
  refine AList.nil ?_
  refine AWp.seq ?_
  refine AWp.region ?_
  refine AList.c 7 rfl rfl rfl (OpJ.move rfl rfl) ?_
  refine AList.c 8 rfl rfl rfl (OpJ.move rfl rfl) ?_
  refine AList.c 9 rfl rfl rfl (OpJ.callP (scut_ok x t h hx) rfl rfl rfl rfl rf57) ?_
  refine AList.c 10 rfl rfl rfl (OpJ.extract rfl rfl rfl) ?_
  refine AList.c 11 rfl rfl rfl (OpJ.extract rfl rfl rfl) ?_
  refine AList.c 12 rfl rfl rfl (OpJ.extract rfl rfl rfl) ?_
  refine AList.c 4 rfl rfl rfl (OpJ.assign rfl rfl) ?_
  refine AList.c 5 rfl rfl rfl (OpJ.assign rfl rfl) ?_
  refine AList.c 6 rfl rfl rfl (OpJ.assign rfl rfl) ?_
  refine AList.nil ?_
  refine AWp.ret ?_
  exact Fin.many (xs := [.str (sB x), .str (sB t), .bool true]) rfl (⟨_, _, rfl, rfl, ⟨_, _, rfl, rfl, ⟨_, _, rfl, rfl, rfl⟩⟩⟩) rfl
theorem split_ok (ls : List Bk.Bs) (h : ∀ x ∈ ls, ∀ b ∈ x, b ≠ 10) (hs : (ls.flatMap fun x => x ++ [10]).length ≤ 1000000) : Pure Tryz.prog 18 [.str (sB (ls.flatMap fun x => x ++ [10])), .str (sB [10])] (.is (((ls ++ [[]]).map sB).map PV.str) ((ls ++ [[]]).map sB).length) := by
  refine Pure.start (N := 8) Tryz.func18 rfl rfl (Nat.le_of_ble_eq_true rfl) ?_
  refine AWp.seq ?_
  refine AWp.region ?_
  refine AList.c 4 rfl rfl rfl (OpJ.assign rfl rfl) ?_
  refine AList.nil ?_
  refine AWp.seq ?_
  refine AWp.region ?_
  refine AList.c 5 rfl rfl rfl (OpJ.move rfl rfl) ?_
  refine AList.c 6 rfl rfl rfl (OpJ.move rfl rfl) ?_
  refine AList.c 7 rfl rfl rfl (OpJ.callP (genSplit_ok ls h hs) rfl rfl rfl rfl rf56) ?_
  refine AList.c 4 rfl rfl rfl (OpJ.assign rfl rfl) ?_
  refine AList.nil ?_
  refine AWp.ret ?_
  exact Fin.one rfl (rfl)
theorem lns_eq (ls : List Bk.Bs) : PV.is ((ls.map sB).map PV.str) (ls.map sB).length = Bk.lnsV ls := by
  unfold Bk.lnsV
  rw [List.length_map, List.map_map]
  congr 1
  induction ls with
  | nil => rfl
  | cons x xs ih => rw [List.map_cons, ih]; rfl
theorem splitP {ps : List Bk.Pck} (hR : ∀ p ∈ ps, Bk.PckR p) (hT : (Bk.pcksT ps).length ≤ 40770) : Pure Tryz.prog 18 [.str (sB (Bk.pcksT ps)), .str (sB [10])] (Bk.lnsV (ps.map Bk.pckN ++ [[]])) := by
  rw [pcksT_lines] at hT ⊢
  rw [← lns_eq]
  exact split_ok _ (fun x hx => by obtain ⟨p, hp, rfl⟩ := List.mem_map.1 hx; exact Bk.pckN_ne10 (hR p hp)) (by omega)
theorem cutP {a : Nat} (ha : a ≤ 65535) {cs : List Int} {i : Nat} (hi : i ≤ 30) {s : Bk.Bs} (h : s = Bk.pckN (pkOf a cs i)) : Pure Tryz.prog 20 [.str (sB s), .str (sB [58])] (.tuple [.str (sB (Lib.itoa ((a : Int) + (i : Int)))), .str (sB (Bk.itmsT cs)), .bool true]) := by
  have e : s = Lib.itoa ((a : Int) + (i : Int)) ++ 58 :: Bk.itmsT cs := by rw [h]; unfold Bk.pckN pkOf; simp
  rw [e]
  exact cut_ok _ _ (itoa_58 (by omega)) (Nat.le_trans (Bk.itoa_len (by omega) (by omega)) (by decide))
theorem wps_ok {ps : List Bk.Pck} {n : Nat} (hl : ps.length = n) (hn : n ≤ 30) (hc : ∀ p ∈ ps, p.colours.length ≤ 48) (hw : Bk.wrP ps = (Bk.pcksT ps, 0)) : Pure Tryz.prog 16 [.is (ps.flatMap Bk.Pck.cells) n] (.tuple [.str (sB (Bk.pcksT ps)), .int .i64 0]) := by
  have h := Bk.writePacks_ok ps (by unfold Bk.bigN; omega) (fun p hp => by have := hc p hp; unfold Bk.bigN; omega)
  rw [hw] at h
  unfold Bk.pcksV at h
  rwa [hl] at h
theorem rps_ok {s : Bk.Bs} {v : PV} {e : Int} (h : Bk.rdP s = (v, e)) : Pure Tryz.prog 17 [.str (sB s)] (.tuple [v, .int .i64 e]) := by
  have h2 := Bk.readPacks_ok s
  rwa [h] at h2
theorem fillN (need : List Int) (l : List Bx.Pr) (b : Int) (hnl : need.length ≤ Bx.bigN) (hll : l.length ≤ Bx.bigN) : Pure Tryz.prog 15 [Bx.intsV need, Bx.rawV l, .int .i64 b] (.tuple [Bx.rowsV need.length (Bx.fR need l b), .int .i64 (Bx.fE need l b)]) := Bx.bfill_ok need l b hnl hll
theorem topPacks_main (need : List Int) (l : List Bx.Pr) (bx a : Nat) (hnl : need.length ≤ Bx.bigN) (hll : l.length ≤ Bx.bigN) (hbx : bx ≤ 255) (ha : a ≤ 65535) : Pure Tryz.prog 4 [Bx.intsV need, Bx.rawV l, .int .u8 (bx : Int), .int .u16 (a : Int)] (.bool true) := by
  refine Pure.start (N := 222) Tryz.func4 rfl rfl (Nat.le_of_ble_eq_true rfl) ?_
  refine AWp.seq ?_
  refine AWp.region ?_
  refine AList.c 8 rfl rfl rfl (OpJ.assign rfl rfl) ?_
  refine AList.nil ?_
  refine AWp.seq ?_
  refine AWp.seq ?_
  refine AWp.region ?_
  refine AList.c 34 rfl rfl rfl (OpJ.move rfl rfl) ?_
  refine AList.c 35 rfl rfl rfl (OpJ.move rfl rfl) ?_
  refine AList.c 36 rfl rfl rfl (OpJ.callP (Bx.rvalid_ok need l hnl hll) rfl rfl rfl rfl rf14) ?_
  refine AList.c 37 rfl rfl rfl (OpJ.not_ rfl rfl) ?_
  refine AList.nil ?_
  refine AWp.cond _ rfl (fun hc0 => ?_) (fun hc0 => ?_)
  · skip
    refine AWp.seq ?_
    refine AWp.region ?_
    refine AList.c 38 rfl rfl rfl (OpJ.callP (awake14_ok) rfl rfl rfl rfl rf6) ?_
    refine AList.c 8 rfl rfl rfl (OpJ.assign rfl rfl) ?_
    refine AList.nil ?_
    refine AWp.ret ?_
    first | exact Fin.oneE rfl rfl rfl | (refine Fin.oneE rfl rfl ?_; rcases hE with e | e <;> rw [e] <;> rfl)
  · skip
    have hV : Bx.Vld need l := by simpa using hc0
    have hL8 := hV.1.2
    have hL1 := hV.1.1
    have hl8 := hV.2.1
    have hN := hV.2.2.1
    refine AWp.skip ?_
    refine AWp.seq ?_
    refine AWp.region ?_
    refine AList.c 9 rfl rfl rfl (OpJ.assign rfl rfl) ?_
    refine AList.nil ?_
    refine AWp.seq ?_
    refine AWp.seq ?_
    refine AWp.region ?_
    refine AList.c 39 rfl rfl rfl (OpJ.move rfl rfl) ?_
    refine AList.c 40 rfl rfl rfl (OpJ.lenSlice rfl rfl sl45 rfl) ?_
    refine AList.c 41 rfl rfl rfl (OpJ.move rfl rfl) ?_
    refine AList.nil ?_
    refine AWp.block ?_
    refine AWp.loopHL [0, 1, 2, 3, 8, 12, 13, 14, 15, 16, 17, 18, 19, 20, 21, 22, 23, 24, 25, 27, 28, 30, 31, 32, 33, 39, 40, 55, 56, 57, 58, 59, 60, 61, 62, 63, 64, 65, 66, 67, 68, 69, 70, 71, 72, 73, 74, 75, 76, 77, 78, 79, 80, 81, 82, 83, 84, 85, 86, 87, 88, 89, 90, 91, 92, 93, 94, 95, 96, 97, 98, 99, 100, 101, 102, 103, 104, 105, 106, 107, 108, 109, 110, 111, 112, 113, 114, 115, 116, 117, 118, 119, 120, 121, 122, 123, 124, 125, 126, 127, 128, 129, 130, 131, 132, 133, 134, 135, 136, 137, 138, 139, 140, 141, 142, 143, 144, 145, 146, 147, 148, 149, 150, 151, 152, 153, 154, 155, 156, 157, 158, 159, 160, 161, 162, 163, 164, 165, 166, 167, 168, 169, 170, 171, 172, 173, 174, 175, 176, 177, 178, 179, 180, 181, 182, 183, 184, 185, 186, 187, 188, 189, 190, 191, 192, 193, 194, 195, 196, 197, 198, 199, 200, 201, 202, 203, 204, 205, 206, 207, 208, 209, 210, 211, 212, 213, 214, 215, 216, 217, 218, 219, 220, 221] (fun g => [(41, .p (.int .i64 ((g : Nat) : Int))), (9, accV 0 (colG need g 0).length)]) (fun g => [accB (((colG need g 0).flatMap Bk.intC).map .p) 3 (colG need g 0).length]) (fun g => g ≤ need.length) (fun g => need.length - g) 0 (Nat.zero_le _) (To.pad.trans (To.sub (Sub.chk (Sub.cons rfl (Sub.cons rfl Sub.nil))))) (fun i hi => ?_)
    refine AWp.seq ?_
    refine AWp.region ?_
    refine AList.c 42 rfl rfl rfl (OpJ.lss rfl rfl rfl) ?_
    refine AList.nil ?_
    refine AWp.seq ?_
    refine AWp.cond _ rfl (fun hc1 => ?_) (fun hc1 => ?_)
    · skip
      have hk0 : i < need.length := by have h := of_decide_eq_true hc1; omega
      have hni := hN _ (Bk.gt_mem 0 hk0)
      have hsum := colF_sum (fun x hx => (hN x hx).1) i (by omega)
      have hlen := colF_B hN i (by omega)
      refine AWp.skip ?_
      refine AWp.seq ?_
      refine AWp.block ?_
      refine AWp.seq ?_
      refine AWp.region ?_
      refine AList.c 43 rfl rfl rfl (OpJ.move rfl rfl) ?_
      refine AList.c 44 rfl rfl rfl (OpJ.indexG (g := Bk.gt 0 need) (Bk.gt_get _) rfl rfl rfl sl45 el45 rfl (fun _ => rfl) (by decide) hk0) ?_
      refine AList.c 45 rfl rfl rfl (OpJ.load (v := .p (.int .i64 (Bk.gt 0 need i))) rfl rfl ty3 rfl) ?_
      refine AList.c 10 rfl rfl rfl (OpJ.assign rfl rfl) ?_
      refine AList.c 11 rfl rfl rfl (OpJ.assign rfl rfl) ?_
      refine AList.nil ?_
      refine AWp.seq ?_
      refine AWp.region ?_
      refine AList.c 46 rfl rfl rfl (OpJ.move rfl rfl) ?_
      refine AList.c 47 rfl rfl rfl (OpJ.move rfl rfl) ?_
      refine AList.nil ?_
      refine AWp.block ?_
      refine AWp.loopHL [0, 1, 2, 3, 8, 10, 11, 12, 13, 14, 15, 16, 17, 18, 19, 20, 21, 22, 23, 24, 25, 27, 28, 30, 31, 32, 33, 39, 40, 41, 42, 43, 44, 45, 46, 54, 55, 56, 57, 58, 59, 60, 61, 62, 63, 64, 65, 66, 67, 68, 69, 70, 71, 72, 73, 74, 75, 76, 77, 78, 79, 80, 81, 82, 83, 84, 85, 86, 87, 88, 89, 90, 91, 92, 93, 94, 95, 96, 97, 98, 99, 100, 101, 102, 103, 104, 105, 106, 107, 108, 109, 110, 111, 112, 113, 114, 115, 116, 117, 118, 119, 120, 121, 122, 123, 124, 125, 126, 127, 128, 129, 130, 131, 132, 133, 134, 135, 136, 137, 138, 139, 140, 141, 142, 143, 144, 145, 146, 147, 148, 149, 150, 151, 152, 153, 154, 155, 156, 157, 158, 159, 160, 161, 162, 163, 164, 165, 166, 167, 168, 169, 170, 171, 172, 173, 174, 175, 176, 177, 178, 179, 180, 181, 182, 183, 184, 185, 186, 187, 188, 189, 190, 191, 192, 193, 194, 195, 196, 197, 198, 199, 200, 201, 202, 203, 204, 205, 206, 207, 208, 209, 210, 211, 212, 213, 214, 215, 216, 217, 218, 219, 220, 221] (fun g => [(47, .p (.int .i64 ((g : Nat) : Int))), (9, accV 0 (colG need i g).length)]) (fun g => [accB (((colG need i g).flatMap Bk.intC).map .p) 3 (colG need i g).length]) (fun g => g ≤ (Bk.gt 0 need i).toNat) (fun g => (Bk.gt 0 need i).toNat - g) 0 (Nat.zero_le _) (To.sub (Sub.chk (Sub.cons rfl (Sub.cons rfl (Sub.nil))))) (fun k hj => ?_)
      refine AWp.seq ?_
      refine AWp.region ?_
      refine AList.c 48 rfl rfl rfl (OpJ.lss rfl rfl rfl) ?_
      refine AList.nil ?_
      refine AWp.seq ?_
      refine AWp.cond _ rfl (fun hc2 => ?_) (fun hc2 => ?_)
      · skip
        have hj0 : k < (Bk.gt 0 need i).toNat := by have h := of_decide_eq_true hc2; omega
        refine AWp.skip ?_
        refine AWp.seq ?_
        refine AWp.block ?_
        refine AWp.region ?_
        refine AList.c 49 rfl rfl rfl (OpJ.move rfl rfl) ?_
        refine AList.c 50 rfl rfl rfl (OpJ.move rfl rfl) ?_
        refine AList.c 51 rfl rfl rfl (OpJ.buildImm rfl slz45 (by decide) rfl rfl rfl) ?_
        refine AList.c 52 rfl rfl rfl (OpJ.appendAcc rfl rfl rfl slz45 sl45 rfl ?_ rfl (by decide) rfl by3 (by decide) ?_) ?_
        · rw [List.length_map, AF.flat_len (c := 1) (fun _ => rfl)]; rfl
        · show (2 * ((colG need i k).length + 1) + 192) * 8 ≤ 281474976710656; rw [show (colG need i k).length = (colF need i).length + k by unfold colG; simp]; omega
        refine AList.c 9 rfl rfl rfl (OpJ.assign rfl rfl) ?_
        refine AList.nil ?_
        refine AWp.region ?_
        refine AList.c 53 rfl rfl rfl (OpJ.add rfl rfl rfl (i64ok ?_)) ?_
        · omega
        refine AList.c 47 rfl rfl rfl (OpJ.move rfl rfl) ?_
        refine AList.nil ?_
        refine ⟨k + 1, ?_, ?_, ?_⟩
        · exact hj0
        · omega
        have eLn : (colG need i (k + 1)).length = (colG need i k).length + 1 := by rw [colG_succ, List.length_append]; rfl
        have eL : (colG need i (k + 1)).flatMap Bk.intC = (colG need i k).flatMap Bk.intC ++ [.int .i64 (i : Int)] := by rw [colG_succ, List.flatMap_append]; rfl
        rw [eLn, eL]
        refine To.done [1] rfl (by repeat (first | exact Sub.nil | refine Sub.cons rfl ?_)) ?_
        show [Blk.row (renL _ (_ ++ _)) _] = [Blk.row _ _]
        rw [renL_app, renL_pure, List.map_append]
        rfl
      · skip
        have hj2 : k = (Bk.gt 0 need i).toNat := by have h := of_decide_eq_false hc2; omega
        subst hj2
        refine AWp.exit ?_
        refine AWp.region ?_
        refine AList.c 54 rfl rfl rfl (OpJ.add rfl rfl rfl (i64ok ?_)) ?_
        · omega
        refine AList.c 41 rfl rfl rfl (OpJ.move rfl rfl) ?_
        refine AList.nil ?_
        refine ⟨i + 1, ?_, ?_, ?_⟩
        · exact hk0
        · omega
        rw [colG_next]
        exact To.sub (by repeat (first | exact Sub.nil | refine Sub.cons rfl ?_))
    · skip
      have hi2 : i = need.length := by have h := of_decide_eq_false hc1; omega
      subst hi2
      refine AWp.to (To.accD 9 0 (colG need need.length 0).length (xs := (colG need need.length 0).flatMap Bk.intC) rfl rfl (fun h => by rw [List.length_eq_zero_iff.1 h]; rfl)) ?_
      rw [colG_0]
      have hcL := colF_lt need need.length
      have hcB : Bk.colsB 0 (colF need need.length) = true := colsB_of _ _ (colF_pair need _) fun x hx => by have := hcL x hx; omega
      have hc1 : 1 ≤ (colF need need.length).length := by have h := colF_sum (fun x hx => (hN x hx).1) need.length (Nat.le_refl _); rw [List.take_length] at h; have := hV.2.2.2.2; omega
      have hcc := fun (k : Nat) (hk : k < need.length) => colF_count need need.length k hk
      have hcn := colF_B hN need.length (Nat.le_refl _)
      generalize colF need need.length = cs at hcL hcB hc1 hcc hcn ⊢
      refine AWp.norm [] [(0, _), (1, _), (2, _), (3, _), (9, _)] [] rfl (by repeat (first | exact Sub.nil | refine Sub.cons rfl ?_)) rfl ?_
      refine AWp.exit ?_
      refine AWp.seq ?_
      refine AWp.region ?_
      refine AList.c 55 rfl rfl rfl (OpJ.move rfl rfl) ?_
      refine AList.c 56 rfl rfl rfl (OpJ.convInt rfl rfl (by rw [un5]; rfl) un3 (i64ok ?_)) ?_
      · omega
      refine AList.c 57 rfl rfl rfl (OpJ.rem (m := ((bx % 31 : Nat) : Int)) rfl rfl rfl ?_ ?_) ?_
      · decide
      · rfl
      refine AList.c 12 rfl rfl rfl (OpJ.assign rfl rfl) ?_
      refine AList.nil ?_
      refine AWp.seq ?_
      have hn30 : bx % 31 ≤ 30 := by omega
      generalize bx % 31 = n at hn30 ⊢
      refine AWp.region ?_
      refine AList.c 59 rfl rfl rfl (OpJ.move rfl rfl) ?_
      refine AList.c 60 rfl rfl rfl (OpJ.move rfl rfl) ?_
      refine AList.c 61 rfl rfl rfl (OpJ.move rfl rfl) ?_
      refine AList.c 62 rfl rfl rfl (OpJ.callP (fillN need l (n : Int) hnl hll) rfl rfl rfl rfl rf15) ?_
      refine AList.c 58 rfl rfl rfl (OpJ.move rfl rfl) ?_
      refine AList.c 63 rfl rfl rfl (OpJ.extract rfl rfl rfl) ?_
      refine AList.c 64 rfl rfl rfl (OpJ.extract rfl rfl rfl) ?_
      refine AList.c 13 rfl rfl rfl (OpJ.assign rfl rfl) ?_
      refine AList.c 14 rfl rfl rfl (OpJ.assign rfl rfl) ?_
      refine AList.nil ?_
      refine AWp.seq ?_
      refine AWp.seq ?_
      refine AWp.region ?_
      refine AList.c 65 rfl rfl rfl (OpJ.move rfl rfl) ?_
      refine AList.c 66 rfl rfl rfl (OpJ.neq rfl rfl rfl) ?_
      refine AList.c 67 rfl rfl rfl (OpJ.move rfl rfl) ?_
      refine AList.g 68 67 rfl rfl rfl rfl rfl rfl rfl [(9, _)] (fun h => And.intro (.inl rfl) (trivial)) (fun h => (OpJ.move rfl rfl)) ?_
      refine AList.g 69 67 rfl rfl rfl rfl rfl rfl rfl [(68, _)] (fun h => And.intro (.inr ⟨_, rfl, h⟩) (trivial)) (fun h => (OpJ.lenSlice rfl rfl sl45 rfl)) ?_
      refine AList.g 70 67 rfl rfl rfl rfl rfl rfl rfl [(69, _)] (fun h => And.intro (.inr ⟨_, rfl, h⟩) (trivial)) (fun h => (OpJ.gtr rfl rfl rfl)) ?_
      refine AList.c 71 rfl rfl rfl (OpJ.or_ rfl rfl rfl ?_) ?_
      · first | (intro h; rw [h]; rfl) | (intro h; simp_all)
      refine AList.nil ?_
      refine AWp.cond _ rfl (fun hc3 => ?_) (fun hc3 => ?_)
      · skip
        have hE : Bx.fE need l (n : Int) = 0 ∨ Bx.fE need l (n : Int) = 10 := by cases hcb : Bx.canB need (Bx.toPl l) (n : Int); exact .inr (Bx.fill_no hV (by omega) (by omega) hcb).1; exact .inl (Bx.fill_yes hV (by omega) (by omega) hcb).1
        refine AWp.seq ?_
        refine AWp.region ?_
        refine AList.c 72 rfl rfl rfl (OpJ.move rfl rfl) ?_
        refine AList.c 73 rfl rfl rfl (OpJ.eql rfl rfl rfl) ?_
        refine AList.c 74 rfl rfl rfl (OpJ.move rfl rfl) ?_
        refine AList.g 75 74 rfl rfl rfl rfl rfl rfl rfl [(14, _)] (fun h => And.intro (.inl rfl) (trivial)) (fun h => (OpJ.move rfl rfl)) ?_
        refine AList.g 76 74 rfl rfl rfl rfl rfl rfl rfl [(75, _)] (fun h => And.intro (.inr ⟨_, rfl, h⟩) (trivial)) (fun h => (OpJ.eql rfl rfl rfl)) ?_
        refine AList.c 77 rfl rfl rfl (OpJ.or_ rfl rfl rfl ?_) ?_
        · first | (intro h; rw [h]; rfl) | (intro h; simp_all)
        refine AList.c 78 rfl rfl rfl (OpJ.move rfl rfl) ?_
        refine AList.g 79 78 rfl rfl rfl rfl rfl rfl rfl [] (fun h => trivial) (fun h => (OpJ.callP (awake14_ok) rfl rfl rfl rfl rf6)) ?_
        refine AList.c 80 rfl rfl rfl (OpJ.and_ rfl rfl rfl ?_) ?_
        · first | (intro h; rw [h]; rfl) | (intro h; simp_all)
        refine AList.c 8 rfl rfl rfl (OpJ.assign rfl rfl) ?_
        refine AList.nil ?_
        refine AWp.ret ?_
        first | exact Fin.oneE rfl rfl rfl | (refine Fin.oneE rfl rfl ?_; rcases hE with e | e <;> rw [e] <;> rfl)
      · skip
        simp only [Bool.or_eq_false_iff, decide_eq_false_iff_not, Bool.not_eq_false', decide_eq_true_eq] at hc3
        obtain ⟨hE0, h48⟩ := hc3
        have h48 : cs.length ≤ 48 := by omega
        have hcb : Bx.canB need (Bx.toPl l) (n : Int) = true := by cases hcb : Bx.canB need (Bx.toPl l) (n : Int); have h := (Bx.fill_no hV (by omega) (by omega) hcb).1; omega; rfl
        obtain ⟨_, hA, _⟩ := Bx.fill_yes hV (by omega) (by omega) hcb
        have hPl := Bx.toPl_ok hV
        have hll2 : (Bx.toPl l).length = l.length := by unfold Bx.toPl; rw [List.length_map]
        have hrl : (Bx.fR need l (n : Int)).length = l.length := by rw [hA.len, hll2]
        refine AWp.skip ?_
        refine AWp.seq ?_
        refine AWp.region ?_
        refine AList.c 15 rfl rfl rfl (OpJ.assign rfl rfl) ?_
        refine AList.nil ?_
        refine AWp.seq ?_
        refine AWp.seq ?_
        refine AWp.region ?_
        refine AList.c 81 rfl rfl rfl (OpJ.move rfl rfl) ?_
        refine AList.c 82 rfl rfl rfl (OpJ.move rfl rfl) ?_
        refine AList.nil ?_
        refine AWp.block ?_
        refine AWp.loopHL [0, 1, 3, 8, 9, 12, 13, 17, 18, 19, 20, 21, 22, 23, 24, 25, 27, 28, 30, 31, 32, 33, 81, 95, 96, 97, 98, 99, 100, 101, 102, 103, 104, 105, 106, 107, 108, 109, 110, 111, 112, 113, 114, 115, 116, 117, 118, 119, 120, 121, 122, 123, 124, 125, 126, 127, 128, 129, 130, 131, 132, 133, 134, 135, 136, 137, 138, 139, 140, 141, 142, 143, 144, 145, 146, 147, 148, 149, 150, 151, 152, 153, 154, 155, 156, 157, 158, 159, 160, 161, 162, 163, 164, 165, 166, 167, 168, 169, 170, 171, 172, 173, 174, 175, 176, 177, 178, 179, 180, 181, 182, 183, 184, 185, 186, 187, 188, 189, 190, 191, 192, 193, 194, 195, 196, 197, 198, 199, 200, 201, 202, 203, 204, 205, 206, 207, 208, 209, 210, 211, 212, 213, 214, 215, 216, 217, 218, 219, 220, 221] (fun g => [(82, .p (.int .i64 ((g : Nat) : Int))), (15, accV 0 g)]) (fun g => [accB (((pksOf a cs g).flatMap Bk.Pck.cells).map .p) 57 g]) (fun g => g ≤ n) (fun g => n - g) 0 (Nat.zero_le _) (To.pad.trans (To.sub (Sub.chk (Sub.cons rfl (Sub.cons rfl Sub.nil))))) (fun i hi => ?_)
        refine AWp.seq ?_
        refine AWp.region ?_
        refine AList.c 83 rfl rfl rfl (OpJ.lss rfl rfl rfl) ?_
        refine AList.nil ?_
        refine AWp.seq ?_
        refine AWp.cond _ rfl (fun hc4 => ?_) (fun hc4 => ?_)
        · skip
          have hk0 : i < n := by have h := of_decide_eq_true hc4; omega
          refine AWp.skip ?_
          refine AWp.seq ?_
          refine AWp.block ?_
          refine AWp.seq ?_
          refine AWp.region ?_
          refine AList.c 84 rfl rfl rfl (OpJ.move rfl rfl) ?_
          refine AList.c 16 rfl rfl rfl (OpJ.assign rfl rfl) ?_
          refine AList.nil ?_
          refine AWp.region ?_
          refine AList.c 85 rfl rfl rfl (OpJ.move rfl rfl) ?_
          refine AList.c 86 rfl rfl rfl (OpJ.move rfl rfl) ?_
          refine AList.c 87 rfl rfl rfl (OpJ.convInt rfl rfl (by rw [un25]; rfl) un3 (i64ok ?_)) ?_
          · omega
          refine AList.c 88 rfl rfl rfl (OpJ.move rfl rfl) ?_
          refine AList.c 89 rfl rfl rfl (OpJ.add rfl rfl rfl (i64ok ?_)) ?_
          · omega
          refine AList.c 90 rfl rfl rfl (OpJ.move rfl rfl) ?_
          refine AList.c 91 rfl rfl rfl (OpJ.buildR (v := .p (.agg (pkOf a cs i).cells)) rfl bd57 rfl rfl rfl) ?_
          refine AList.c 92 rfl rfl rfl (OpJ.buildImm rfl slz55 (by decide) rfl rfl rfl) ?_
          refine AList.c 93 rfl rfl rfl (OpJ.appendAcc rfl rfl rfl slz55 sl55 rfl ?_ rfl (by decide) rfl by57 (by decide) ?_) ?_
          · rw [List.length_map, AF.flat_len (c := 2) (fun _ => rfl), pksOf_len]; rfl
          · show (2 * (i + 1) + 192) * 32 ≤ 281474976710656; omega
          refine AList.c 15 rfl rfl rfl (OpJ.assign rfl rfl) ?_
          refine AList.nil ?_
          refine AWp.region ?_
          refine AList.c 94 rfl rfl rfl (OpJ.add rfl rfl rfl (i64ok ?_)) ?_
          · omega
          refine AList.c 82 rfl rfl rfl (OpJ.move rfl rfl) ?_
          refine AList.nil ?_
          refine ⟨i + 1, ?_, ?_, ?_⟩
          · exact hk0
          · omega
          rw [pksOf_cells]
          refine To.done [1] rfl (by repeat (first | exact Sub.nil | refine Sub.cons rfl ?_)) ?_
          show [Blk.row (renL _ (_ ++ _)) _] = [Blk.row _ _]
          rw [renL_app, renL_pure, List.map_append]
          rfl
        · skip
          have hi2 : i = n := by have h := of_decide_eq_false hc4; omega
          subst hi2
          refine AWp.to (To.accD 15 0 i (xs := (pksOf a cs i).flatMap Bk.Pck.cells) rfl rfl (fun h => by rw [h]; rfl)) ?_
          have hw := pksOf_wr (n := i) ha hn30 hcB hc1 h48
          have hat := fun (j : Nat) (hj : j < i) => pksOf_at a cs hj
          have hpl := pksOf_len a cs i
          have hpc : ∀ p ∈ pksOf a cs i, p.colours.length ≤ 48 := fun p hp => by obtain ⟨j, _, rfl⟩ := List.mem_map.1 hp; exact h48
          generalize pksOf a cs i = ps at hw hat hpl hpc ⊢
          obtain ⟨_, hpv, _, hT, hrd⟩ := Bk.wrP_ok (l := ps) (by rw [hw])
          have hR := Bk.pcks_R hpv
          refine AWp.norm [] [(0, _), (1, _), (3, _), (9, _), (12, _), (13, _), (15, _)] [] rfl (by repeat (first | exact Sub.nil | refine Sub.cons rfl ?_)) rfl ?_
          generalize hni : i = n at *
          refine AWp.exit ?_
          refine AWp.seq ?_
          refine AWp.region ?_
          refine AList.c 96 rfl rfl rfl (OpJ.move rfl rfl) ?_
          refine AList.c 97 rfl rfl rfl (OpJ.callP (wps_ok hpl hn30 hpc hw) rfl rfl rfl rfl rf16) ?_
          refine AList.c 95 rfl rfl rfl (OpJ.move rfl rfl) ?_
          refine AList.c 98 rfl rfl rfl (OpJ.extract rfl rfl rfl) ?_
          refine AList.c 99 rfl rfl rfl (OpJ.extract rfl rfl rfl) ?_
          refine AList.c 17 rfl rfl rfl (OpJ.assign rfl rfl) ?_
          refine AList.c 18 rfl rfl rfl (OpJ.assign rfl rfl) ?_
          refine AList.nil ?_
          refine AWp.seq ?_
          refine AWp.region ?_
          refine AList.c 101 rfl rfl rfl (OpJ.move rfl rfl) ?_
          refine AList.c 102 rfl rfl rfl (OpJ.callP (rps_ok hrd) rfl rfl rfl rfl rf17) ?_
          refine AList.c 100 rfl rfl rfl (OpJ.move rfl rfl) ?_
          refine AList.c 103 rfl rfl rfl (OpJ.extract rfl rfl rfl) ?_
          refine AList.c 104 rfl rfl rfl (OpJ.extract rfl rfl rfl) ?_
          refine AList.c 19 rfl rfl rfl (OpJ.assign rfl rfl) ?_
          refine AList.c 20 rfl rfl rfl (OpJ.assign rfl rfl) ?_
          refine AList.nil ?_
          refine AWp.seq ?_
          refine AWp.seq ?_
          refine AWp.region ?_
          refine AList.c 105 rfl rfl rfl (OpJ.move rfl rfl) ?_
          refine AList.c 106 rfl rfl rfl (OpJ.neq rfl rfl rfl) ?_
          refine AList.c 107 rfl rfl rfl (OpJ.move rfl rfl) ?_
          refine AList.g 108 107 rfl rfl rfl rfl rfl rfl rfl [(20, _)] (fun h => And.intro (.inl rfl) (trivial)) (fun h => (OpJ.move rfl rfl)) ?_
          refine AList.g 109 107 rfl rfl rfl rfl rfl rfl rfl [(108, _)] (fun h => And.intro (.inr ⟨_, rfl, h⟩) (trivial)) (fun h => (OpJ.neq rfl rfl rfl)) ?_
          refine AList.c 110 rfl rfl rfl (OpJ.or_ rfl rfl rfl ?_) ?_
          · first | (intro h; rw [h]; rfl) | (intro h; simp_all)
          refine AList.c 111 rfl rfl rfl (OpJ.move rfl rfl) ?_
          refine AList.g 112 111 rfl rfl rfl rfl rfl rfl rfl [(19, _)] (fun h => And.intro (.inl rfl) (trivial)) (fun h => (OpJ.move rfl rfl)) ?_
          refine AList.g 113 111 rfl rfl rfl rfl rfl rfl rfl [(112, _)] (fun h => And.intro (.inr ⟨_, rfl, h⟩) (trivial)) (fun h => (OpJ.lenSlice rfl rfl sl55 rfl)) ?_
          refine AList.g 114 111 rfl rfl rfl rfl rfl rfl rfl [(12, _)] (fun h => And.intro (.inl rfl) (trivial)) (fun h => (OpJ.move rfl rfl)) ?_
          refine AList.g 115 111 rfl rfl rfl rfl rfl rfl rfl [(113, _), (114, _)] (fun h => And.intro (.inr ⟨_, rfl, h⟩) (And.intro (.inr ⟨_, rfl, h⟩) (trivial))) (fun h => (OpJ.neq rfl rfl rfl)) ?_
          refine AList.c 116 rfl rfl rfl (OpJ.or_ rfl rfl rfl ?_) ?_
          · first | (intro h; rw [h]; rfl) | (intro h; simp_all)
          refine AList.c 117 rfl rfl rfl (OpJ.move rfl rfl) ?_
          refine AList.g 118 117 rfl rfl rfl rfl rfl rfl rfl [(13, _)] (fun h => And.intro (.inl rfl) (trivial)) (fun h => (OpJ.move rfl rfl)) ?_
          refine AList.g 119 117 rfl rfl rfl rfl rfl rfl rfl [(118, _)] (fun h => And.intro (.inr ⟨_, rfl, h⟩) (trivial)) (fun h => (OpJ.lenSlice rfl rfl sl52 rfl)) ?_
          refine AList.g 120 117 rfl rfl rfl rfl rfl rfl rfl [(1, _)] (fun h => And.intro (.inl rfl) (trivial)) (fun h => (OpJ.move rfl rfl)) ?_
          refine AList.g 121 117 rfl rfl rfl rfl rfl rfl rfl [(120, _)] (fun h => And.intro (.inr ⟨_, rfl, h⟩) (trivial)) (fun h => (OpJ.lenSlice rfl rfl sl50 rfl)) ?_
          refine AList.g 122 117 rfl rfl rfl rfl rfl rfl rfl [(119, _), (121, _)] (fun h => And.intro (.inr ⟨_, rfl, h⟩) (And.intro (.inr ⟨_, rfl, h⟩) (trivial))) (fun h => (OpJ.neq rfl rfl rfl)) ?_
          refine AList.c 123 rfl rfl rfl (OpJ.or_ rfl rfl rfl ?_) ?_
          · first | (intro h; rw [h]; rfl) | (intro h; simp_all)
          refine AList.nil ?_
          refine AWp.cond _ rfl (fun hc5 => ?_) (fun hc5 => ?_)
          · skip
            exfalso
            rw [hpl] at hc5
            simp [Bx.rowsV, hrl] at hc5
          · skip
            refine AWp.skip ?_
            refine AWp.seq ?_
            refine AWp.region ?_
            refine AList.c 21 rfl rfl rfl (OpJ.assign rfl rfl) ?_
            refine AList.nil ?_
            refine AWp.seq ?_
            refine AWp.region ?_
            refine AList.c 124 rfl rfl rfl (OpJ.move rfl rfl) ?_
            refine AList.c 125 rfl rfl rfl (OpJ.lenSlice rfl rfl sl45 rfl) ?_
            refine AList.c 126 rfl rfl rfl (OpJ.makeSlice (n := need.length) (c := need.length) rfl rfl rfl slz45 by3 (by decide) (Nat.le_refl _) (by show 8 * need.length ≤ 281474976710656; omega)) ?_
            refine AList.c 22 rfl rfl rfl (OpJ.assign rfl rfl) ?_
            refine AList.nil ?_
            refine AWp.seq ?_
            rw [havF_0 cs]
            refine AWp.norm [0] [(0, _), (1, _), (3, _), (9, _), (12, _), (13, _), (17, _), (19, _), (21, .p (.str (sB (itemN cs 0)))), (22, .row 0 need.length)] [.row (((havF cs need.length 0 0).flatMap Bk.intC).map .p) 3] rfl (by repeat (first | exact Sub.nil | refine Sub.cons rfl ?_)) (by show [Blk.row (renL _ (List.map V.p _)) _] = _; rw [renL_pure]) ?_
            refine AWp.region ?_
            refine AList.c 127 rfl rfl rfl (OpJ.move rfl rfl) ?_
            refine AList.c 128 rfl rfl rfl (OpJ.callP (splitP hR hT) rfl rfl rfl rfl rf18) ?_
            refine AList.c 23 rfl rfl rfl (OpJ.assign rfl rfl) ?_
            refine AList.nil ?_
            refine AWp.seq ?_
            refine AWp.seq ?_
            refine AWp.region ?_
            refine AList.c 129 rfl rfl rfl (OpJ.move rfl rfl) ?_
            refine AList.c 130 rfl rfl rfl (OpJ.lenSlice rfl rfl sl55 rfl) ?_
            refine AList.c 131 rfl rfl rfl (OpJ.move rfl rfl) ?_
            refine AList.nil ?_
            refine AWp.block ?_
            refine AWp.loopHL [0, 3, 9, 13, 22, 23, 31, 32, 33, 129, 130, 186, 187, 188, 189, 190, 191, 192, 193, 194, 195, 196, 197, 198, 199, 200, 201, 202, 203, 204, 205, 206, 207, 208, 209, 210, 211, 212, 213, 214, 215, 216, 217, 218, 219, 220, 221] (fun g => [(131, .p (.int .i64 ((g : Nat) : Int))), (21, .p (.str (sB (itemN cs g))))]) (fun g => [.row (((havF cs need.length g 0).flatMap Bk.intC).map .p) 3]) (fun g => g ≤ n) (fun g => n - g) 0 (Nat.zero_le _) (To.sub (Sub.chk (Sub.cons rfl (Sub.cons rfl (Sub.nil))))) (fun i hi => ?_)
            refine AWp.seq ?_
            refine AWp.region ?_
            refine AList.c 132 rfl rfl rfl (OpJ.lss rfl rfl rfl) ?_
            refine AList.nil ?_
            refine AWp.seq ?_
            refine AWp.cond _ rfl (fun hc6 => ?_) (fun hc6 => ?_)
            · skip
              have hk0 : i < ps.length := by have h := of_decide_eq_true hc6; omega
              have hkn : i < n := by omega
              have hpi := hat i hkn
              have hli : Bk.gt [] (ps.map Bk.pckN ++ [[]]) i = Bk.pckN (pkOf a cs i) := by rw [← Bk.gt_get [] i (by simp; omega), List.getElem_append_left (by rw [List.length_map]; exact hk0), List.getElem_map, Bk.gt_get Bk.Pck.d i hk0, hpi]
              refine AWp.skip ?_
              refine AWp.seq ?_
              refine AWp.block ?_
              refine AWp.seq ?_
              refine AWp.region ?_
              refine AList.c 133 rfl rfl rfl (OpJ.move rfl rfl) ?_
              refine AList.c 134 rfl rfl rfl (OpJ.indexG (g := Bk.gt Bk.Pck.d ps) (Bk.gt_get _) rfl rfl rfl sl55 el55 rfl (fun _ => rfl) (by decide) hk0) ?_
              refine AList.c 135 rfl rfl rfl (OpJ.load (v := .p (.agg (Bk.gt Bk.Pck.d ps i).cells)) rfl rfl ty57 rfl) ?_
              refine AList.c 25 rfl rfl rfl (OpJ.allocOwn rfl zr57 rfl) ?_
              refine AList.c 24 rfl rfl rfl (OpJ.assign rfl rfl) ?_
              refine AList.c0 rfl rfl (OpJ.store (H' := [.row (((havF cs need.length i 0).flatMap Bk.intC).map .p) 3, .cells ((Bk.gt Bk.Pck.d ps i).cells.map .p) 57]) rfl rfl rfl rfl rfl ty57 rfl rfl) ?_
              refine AList.nil ?_
              refine AWp.seq ?_
              refine AWp.seq ?_
              refine AWp.region ?_
              refine AList.c 136 rfl rfl rfl (OpJ.fieldAddr rfl rfl fd57_0 rfl) ?_
              refine AList.c 137 rfl rfl rfl (OpJ.load (v := .p (.int .i64 (Bk.gt Bk.Pck.d ps i).box)) rfl rfl ty3 rfl) ?_
              refine AList.c 138 rfl rfl rfl (OpJ.move rfl rfl) ?_
              refine AList.c 139 rfl rfl rfl (OpJ.convInt rfl rfl (by rw [un25]; rfl) un3 (i64ok ?_)) ?_
              · omega
              refine AList.c 140 rfl rfl rfl (OpJ.move rfl rfl) ?_
              refine AList.c 141 rfl rfl rfl (OpJ.add rfl rfl rfl (i64ok ?_)) ?_
              · omega
              refine AList.c 142 rfl rfl rfl (OpJ.neq rfl rfl rfl) ?_
              refine AList.c 143 rfl rfl rfl (OpJ.move rfl rfl) ?_
              refine AList.g 144 143 rfl rfl rfl rfl rfl rfl rfl [(25, _)] (fun h => And.intro (.inl rfl) (trivial)) (fun h => (OpJ.fieldAddr rfl rfl fd57_1 rfl)) ?_
              refine AList.g 145 143 rfl rfl rfl rfl rfl rfl rfl [(144, _)] (fun h => And.intro (.inr ⟨_, rfl, h⟩) (trivial)) (fun h => (OpJ.load (v := .p (Bk.intsV (Bk.gt Bk.Pck.d ps i).colours)) rfl rfl ty45 rfl)) ?_
              refine AList.g 146 143 rfl rfl rfl rfl rfl rfl rfl [(9, _)] (fun h => And.intro (.inl rfl) (trivial)) (fun h => (OpJ.move rfl rfl)) ?_
              refine AList.g 147 143 rfl rfl rfl rfl rfl rfl rfl [(145, _), (146, _)] (fun h => And.intro (.inr ⟨_, rfl, h⟩) (And.intro (.inr ⟨_, rfl, h⟩) (trivial))) (fun h => (OpJ.callP (Bk.ints_ok (Bk.gt Bk.Pck.d ps i).colours cs (by rw [hpi]; show cs.length ≤ _; unfold Bk.bigN; omega) (by unfold Bk.bigN; omega)) rfl rfl rfl rfl rf19)) ?_
              refine AList.g 148 143 rfl rfl rfl rfl rfl rfl rfl [(147, _)] (fun h => And.intro (.inr ⟨_, rfl, h⟩) (trivial)) (fun h => (OpJ.not_ rfl rfl)) ?_
              refine AList.c 149 rfl rfl rfl (OpJ.or_ rfl rfl rfl ?_) ?_
              · first | (intro h; rw [h]; rfl) | (intro h; simp_all)
              refine AList.nil ?_
              refine AWp.cond _ rfl (fun hc7 => ?_) (fun hc7 => ?_)
              · skip
                exfalso
                rw [hpi] at hc7
                unfold pkOf at hc7
                simp at hc7
              · skip
                rw [hpi]
                refine AWp.skip ?_
                refine AWp.seq ?_
                refine AWp.region ?_
                refine AList.c 151 rfl rfl rfl (OpJ.move rfl rfl) ?_
                refine AList.c 152 rfl rfl rfl (OpJ.move rfl rfl) ?_
                refine AList.c 153 rfl rfl rfl (OpJ.indexG (g := Bk.gt [] (ps.map Bk.pckN ++ [[]])) (Bk.gt_get _) rfl rfl rfl sl61 el61 rfl (fun _ => rfl) (by decide) (by simp; omega)) ?_
                refine AList.c 154 rfl rfl rfl (OpJ.load (v := .p (.str (sB (Bk.gt [] (ps.map Bk.pckN ++ [[]]) i)))) rfl rfl ty9 rfl) ?_
                refine AList.c 155 rfl rfl rfl (OpJ.callP (cutP ha (show i ≤ 30 by omega) hli) rfl rfl rfl rfl rf20) ?_
                refine AList.c 150 rfl rfl rfl (OpJ.move rfl rfl) ?_
                refine AList.c 156 rfl rfl rfl (OpJ.extract rfl rfl rfl) ?_
                refine AList.c 157 rfl rfl rfl (OpJ.extract rfl rfl rfl) ?_
                refine AList.c 158 rfl rfl rfl (OpJ.extract rfl rfl rfl) ?_
                refine AList.c 26 rfl rfl rfl (OpJ.assign rfl rfl) ?_
                refine AList.c 27 rfl rfl rfl (OpJ.assign rfl rfl) ?_
                refine AList.c 28 rfl rfl rfl (OpJ.assign rfl rfl) ?_
                refine AList.nil ?_
                refine AWp.seq ?_
                refine AWp.seq ?_
                refine AWp.region ?_
                refine AList.c 159 rfl rfl rfl (OpJ.move rfl rfl) ?_
                refine AList.c 160 rfl rfl rfl (OpJ.not_ rfl rfl) ?_
                refine AList.c 161 rfl rfl rfl (OpJ.move rfl rfl) ?_
                refine AList.g 162 161 rfl rfl rfl rfl rfl rfl rfl [(24, _)] (fun h => And.intro (.inl rfl) (trivial)) (fun h => (OpJ.move rfl rfl)) ?_
                refine AList.g 163 161 rfl rfl rfl rfl rfl rfl rfl [(162, _)] (fun h => And.intro (.inr ⟨_, rfl, h⟩) (trivial)) (fun h => (OpJ.gtr rfl rfl rfl)) ?_
                refine AList.g 164 161 rfl rfl rfl rfl rfl rfl rfl [(163, _)] (fun h => And.intro (.inr ⟨_, rfl, h⟩) (trivial)) (fun h => (OpJ.move rfl rfl)) ?_
                refine AList.g 165 164 rfl rfl rfl rfl rfl rfl rfl [(27, _)] (fun h => And.intro (.inl rfl) (trivial)) (fun h => (OpJ.move rfl rfl)) ?_
                refine AList.g 166 164 rfl rfl rfl rfl rfl rfl rfl [(21, _)] (fun h => And.intro (.inl rfl) (trivial)) (fun h => (OpJ.move rfl rfl)) ?_
                refine AList.g 167 164 rfl rfl rfl rfl rfl rfl rfl [(165, _), (166, _)] (fun h => And.intro (.inr ⟨_, rfl, h⟩) (And.intro (.inr ⟨_, rfl, h⟩) (trivial))) (fun h => (OpJ.strNe (Bk.itmsT cs) (itemN cs i) rfl rfl rfl)) ?_
                refine AList.g 168 161 rfl rfl rfl rfl rfl rfl rfl [(164, _), (167, _)] (fun h => And.intro (.inr ⟨_, rfl, h⟩) (And.intro (.inl rfl) (trivial))) (fun h => (OpJ.and_ rfl rfl rfl ?_)) ?_
                · first | (intro h; rw [h]; rfl) | (intro h; simp_all)
                refine AList.c 169 rfl rfl rfl (OpJ.or_ rfl rfl rfl ?_) ?_
                · first | (intro h; rw [h]; rfl) | (intro h; simp_all)
                refine AList.nil ?_
                refine AWp.cond _ rfl (fun hc8 => ?_) (fun hc8 => ?_)
                · skip
                  exfalso
                  have hi0 : 0 < i := by simp at hc8; omega
                  obtain ⟨j, rfl⟩ : ∃ j, i = j + 1 := ⟨i - 1, by omega⟩
                  simp [itemN] at hc8
                · skip
                  refine AWp.skip ?_
                  refine AWp.seq ?_
                  refine AWp.region ?_
                  refine AList.c 170 rfl rfl rfl (OpJ.move rfl rfl) ?_
                  refine AList.c 21 rfl rfl rfl (OpJ.assign rfl rfl) ?_
                  refine AList.nil ?_
                  refine AWp.seq ?_
                  refine AWp.region ?_
                  refine AList.c 171 rfl rfl rfl (OpJ.fieldAddr rfl rfl fd57_1 rfl) ?_
                  refine AList.c 172 rfl rfl rfl (OpJ.load (v := .p (Bk.intsV cs)) rfl rfl ty45 rfl) ?_
                  refine AList.c 173 rfl rfl rfl (OpJ.lenSlice rfl rfl sl45 rfl) ?_
                  refine AList.c 174 rfl rfl rfl (OpJ.move rfl rfl) ?_
                  refine AList.nil ?_
                  refine AWp.block ?_
                  refine AWp.norm [0, 1] [(0, _), (3, _), (9, _), (13, _), (21, _), (23, _), (129, _), (130, _), (131, _), (172, _), (173, _), (22, .row 0 need.length), (174, .p (.int .i64 0))] [.row (((havF cs need.length i 0).flatMap Bk.intC).map .p) 3, .cells ((pkOf a cs i).cells.map .p) 57] rfl (by repeat (first | exact Sub.nil | refine Sub.cons rfl ?_)) (by show [Blk.row (renL _ (List.map V.p _)) _, Blk.cells (renL _ (List.map V.p _)) _] = _; rw [renL_pure, renL_pure]) ?_
                  refine AWp.loopHL [0, 3, 8, 9, 13, 21, 22, 23, 24, 25, 27, 28, 31, 32, 33, 129, 130, 131, 132, 133, 134, 135, 136, 137, 138, 139, 140, 141, 142, 143, 144, 145, 146, 147, 148, 149, 150, 151, 152, 153, 154, 155, 156, 157, 158, 159, 160, 161, 162, 163, 164, 165, 166, 167, 168, 169, 170, 171, 172, 173, 185, 186, 187, 188, 189, 190, 191, 192, 193, 194, 195, 196, 197, 198, 199, 200, 201, 202, 203, 204, 205, 206, 207, 208, 209, 210, 211, 212, 213, 214, 215, 216, 217, 218, 219, 220, 221] (fun g => [(174, .p (.int .i64 ((g : Nat) : Int)))]) (fun g => [.row (((havF cs need.length i g).flatMap Bk.intC).map .p) 3, .cells ((pkOf a cs i).cells.map .p) 57]) (fun g => g ≤ cs.length) (fun g => cs.length - g) 0 (Nat.zero_le _) (To.sub (Sub.chk (Sub.cons rfl (Sub.nil)))) (fun k hj => ?_)
                  refine AWp.seq ?_
                  refine AWp.region ?_
                  refine AList.c 175 rfl rfl rfl (OpJ.lss rfl rfl rfl) ?_
                  refine AList.nil ?_
                  refine AWp.seq ?_
                  refine AWp.cond _ rfl (fun hc9 => ?_) (fun hc9 => ?_)
                  · skip
                    have hk1 : k < cs.length := by have h : (k : Int) < (cs.length : Int) := of_decide_eq_true hc9; omega
                    have hcm := hcL _ (Bk.gt_mem 0 hk1)
                    obtain ⟨c, hcq⟩ : ∃ c : Nat, Bk.gt 0 cs k = (c : Int) := ⟨_, (Int.toNat_of_nonneg hcm.1).symm⟩
                    have hcl : c < need.length := by omega
                    have hcv : c < (havF cs need.length i k).length := by rw [havF_len]; exact hcl
                    have hvB := havF_B (cs := cs) (t := k) hcl (show i ≤ 30 by omega) h48
                    refine AWp.skip ?_
                    refine AWp.seq ?_
                    refine AWp.block ?_
                    refine AWp.seq ?_
                    refine AWp.region ?_
                    refine AList.c 176 rfl rfl rfl (OpJ.indexG (g := Bk.gt 0 cs) (Bk.gt_get _) rfl rfl rfl sl45 el45 rfl (fun _ => rfl) (by decide) hk1) ?_
                    refine AList.c 177 rfl rfl rfl (OpJ.load (v := .p (.int .i64 (Bk.gt 0 cs k))) rfl rfl ty3 rfl) ?_
                    refine AList.c 30 rfl rfl rfl (OpJ.assign rfl rfl) ?_
                    refine AList.nil ?_
                    rw [hcq]
                    refine AWp.region ?_
                    refine AList.c 178 rfl rfl rfl (OpJ.move rfl rfl) ?_
                    refine AList.c 179 rfl rfl rfl (OpJ.move rfl rfl) ?_
                    refine AList.c 180 rfl rfl rfl (OpJ.indexRow rfl rfl rfl sl45 el45 hcl) ?_
                    refine AList.c 181 rfl rfl rfl (OpJ.loadFlat (f := Bk.intC) (c := 1) (k := c) (j := 0) (xs := (havF cs need.length i k)) rfl rfl ty3 rfl rfl (by omega) (fun _ => rfl) hcv (by decide) (show _ = PV.int .i64 (Bk.gt 0 (havF cs need.length i k) c) from by rw [Bk.gt_get 0 c hcv]; rfl)) ?_
                    refine AList.c 182 rfl rfl rfl (OpJ.add rfl rfl rfl (i64ok ?_)) ?_
                    · omega
                    refine AList.c 183 rfl rfl rfl (OpJ.indexRow rfl rfl rfl sl45 el45 hcl) ?_
                    refine AList.c0 rfl rfl (OpJ.storeRow (f := Bk.intC) (c := 1) (k := c) (j := 0) (xs := (havF cs need.length i k)) (z := ((Bk.gt 0 (havF cs need.length i k) c) + 1)) (ws := [.int .i64 ((Bk.gt 0 (havF cs need.length i k) c) + 1)]) rfl rfl rfl rfl rfl ty3 rfl rfl rfl (by omega) (fun _ => rfl) hcv (by show 0 + 1 ≤ 1; decide) rfl) ?_
                    refine AList.nil ?_
                    refine AWp.region ?_
                    refine AList.c 184 rfl rfl rfl (OpJ.add rfl rfl rfl (i64ok ?_)) ?_
                    · omega
                    refine AList.c 174 rfl rfl rfl (OpJ.move rfl rfl) ?_
                    refine AList.nil ?_
                    refine ⟨k + 1, ?_, ?_, ?_⟩
                    · exact hk1
                    · omega
                    rw [← havF_set hk1 hcq hcl]
                    exact To.sub (by repeat (first | exact Sub.nil | refine Sub.cons rfl ?_))
                  · skip
                    have hj2 : k = cs.length := by have h : ¬ ((k : Int) < (cs.length : Int)) := of_decide_eq_false hc9; omega
                    subst hj2
                    refine AWp.exit ?_
                    refine AWp.region ?_
                    refine AList.c 185 rfl rfl rfl (OpJ.add rfl rfl rfl (i64ok ?_)) ?_
                    · omega
                    refine AList.c 131 rfl rfl rfl (OpJ.move rfl rfl) ?_
                    refine AList.nil ?_
                    refine ⟨i + 1, ?_, ?_, ?_⟩
                    · exact hkn
                    · omega
                    rw [havF_next]
                    refine To.done [0] rfl (by repeat (first | exact Sub.nil | refine Sub.cons rfl ?_)) ?_
                    show [Blk.row (renL _ (List.map V.p _)) _] = [Blk.row _ _]
                    rw [renL_pure]
            · skip
              have hi2 : n = i := by have h := of_decide_eq_false hc6; omega
              subst hi2
              refine AWp.freeze 0 rfl (allP_map _) ?_
              refine AWp.norm [] [(0, _), (13, _), (22, .p (.is ((havF cs need.length n 0).flatMap Bk.intC) need.length))] [] rfl (by repeat (first | exact Sub.nil | refine Sub.cons rfl ?_)) rfl ?_
              rw [hav_V]
              refine AWp.exit ?_
              refine AWp.seq ?_
              refine AWp.seq ?_
              refine AWp.region ?_
              refine AList.c 186 rfl rfl rfl (OpJ.move rfl rfl) ?_
              refine AList.c 187 rfl rfl rfl (OpJ.lenSlice rfl rfl sl45 rfl) ?_
              refine AList.c 188 rfl rfl rfl (OpJ.move rfl rfl) ?_
              refine AList.nil ?_
              refine AWp.block ?_
              refine AWp.loopHL [0, 13, 22, 187, 221] (fun g => [(188, .p (.int .i64 ((g : Nat) : Int)))]) (fun g => []) (fun g => g ≤ need.length) (fun g => need.length - g) 0 (Nat.zero_le _) (To.sub (Sub.chk (Sub.cons rfl (Sub.nil)))) (fun i hi => ?_)
              refine AWp.seq ?_
              refine AWp.region ?_
              refine AList.c 189 rfl rfl rfl (OpJ.lss rfl rfl rfl) ?_
              refine AList.nil ?_
              refine AWp.seq ?_
              refine AWp.cond _ rfl (fun hc10 => ?_) (fun hc10 => ?_)
              · skip
                have hk0 : i < need.length := by have h := of_decide_eq_true hc10; omega
                refine AWp.skip ?_
                refine AWp.seq ?_
                refine AWp.block ?_
                refine AWp.seq ?_
                refine AWp.region ?_
                refine AList.c 190 rfl rfl rfl (OpJ.move rfl rfl) ?_
                refine AList.c 31 rfl rfl rfl (OpJ.assign rfl rfl) ?_
                refine AList.nil ?_
                refine AWp.seq ?_
                refine AWp.region ?_
                refine AList.c 32 rfl rfl rfl (OpJ.assign rfl rfl) ?_
                refine AList.nil ?_
                refine AWp.seq ?_
                refine AWp.seq ?_
                refine AWp.region ?_
                refine AList.c 191 rfl rfl rfl (OpJ.move rfl rfl) ?_
                refine AList.c 192 rfl rfl rfl (OpJ.lenSlice rfl rfl sl52 rfl) ?_
                refine AList.c 193 rfl rfl rfl (OpJ.move rfl rfl) ?_
                refine AList.nil ?_
                refine AWp.block ?_
                refine AWp.loopHL [0, 13, 22, 31, 187, 188, 189, 190, 191, 192, 214, 215, 216, 217, 218, 219, 220, 221] (fun g => [(193, .p (.int .i64 ((g : Nat) : Int))), (32, .p (.int .i64 (Bx.colS (Bx.fR need l (n : Int)) i g)))]) (fun g => []) (fun g => g ≤ (Bx.fR need l (n : Int)).length) (fun g => (Bx.fR need l (n : Int)).length - g) 0 (Nat.zero_le _) (To.sub (Sub.chk (Sub.cons rfl (Sub.cons rfl (Sub.nil))))) (fun j hj => ?_)
                refine AWp.seq ?_
                refine AWp.region ?_
                refine AList.c 194 rfl rfl rfl (OpJ.lss rfl rfl rfl) ?_
                refine AList.nil ?_
                refine AWp.seq ?_
                refine AWp.cond _ rfl (fun hc11 => ?_) (fun hc11 => ?_)
                · skip
                  have hj0 : j < (Bx.fR need l (n : Int)).length := by have h := of_decide_eq_true hc11; omega
                  have hrj : (Bk.gt [] (Bx.fR need l (n : Int)) j).length = need.length := hA.rl _ (Bk.gt_mem [] hj0)
                  have hB := hA.colB hPl i j (by omega)
                  have hB2 := hA.colB hPl i (j + 1) (by omega)
                  have hst : Bx.colS (Bx.fR need l (n : Int)) i (j + 1) = Bx.colS (Bx.fR need l (n : Int)) i j + Bk.gt 0 (Bk.gt [] (Bx.fR need l (n : Int)) j) i := by rw [Bx.colS_succ hj0 (by rw [Bk.gt_get [] j hj0, hrj]; exact hk0)]; simp only [Bk.gt_get [] j hj0, Bk.gt_get 0 i (show i < (Bk.gt [] (Bx.fR need l (n : Int)) j).length by rw [hrj]; exact hk0)]
                  refine AWp.skip ?_
                  refine AWp.seq ?_
                  refine AWp.block ?_
                  refine AWp.seq ?_
                  refine AWp.region ?_
                  refine AList.c 195 rfl rfl rfl (OpJ.move rfl rfl) ?_
                  refine AList.c 33 rfl rfl rfl (OpJ.assign rfl rfl) ?_
                  refine AList.nil ?_
                  refine AWp.seq ?_
                  refine AWp.seq ?_
                  refine AWp.region ?_
                  refine AList.c 196 rfl rfl rfl (OpJ.move rfl rfl) ?_
                  refine AList.c 197 rfl rfl rfl (OpJ.move rfl rfl) ?_
                  refine AList.c 198 rfl rfl rfl (OpJ.indexG (g := Bk.gt [] (Bx.fR need l (n : Int))) (Bk.gt_get _) rfl rfl rfl sl52 el52 rfl (fun _ => rfl) (by decide) hj0) ?_
                  refine AList.c 199 rfl rfl rfl (OpJ.load (v := .p (.is ((Bk.gt [] (Bx.fR need l (n : Int)) j).flatMap Bx.i1) need.length)) rfl rfl ty45 rfl) ?_
                  refine AList.c 200 rfl rfl rfl (OpJ.lenSlice rfl rfl sl45 rfl) ?_
                  refine AList.c 201 rfl rfl rfl (OpJ.move rfl rfl) ?_
                  refine AList.c 202 rfl rfl rfl (OpJ.lenSlice rfl rfl sl45 rfl) ?_
                  refine AList.c 203 rfl rfl rfl (OpJ.neq rfl rfl rfl) ?_
                  refine AList.nil ?_
                  refine AWp.cond _ rfl (fun hc12 => ?_) (fun hc12 => ?_)
                  · skip
                    exfalso
                    simp at hc12
                  · skip
                    refine AWp.skip ?_
                    refine AWp.region ?_
                    refine AList.c 204 rfl rfl rfl (OpJ.move rfl rfl) ?_
                    refine AList.c 205 rfl rfl rfl (OpJ.move rfl rfl) ?_
                    refine AList.c 206 rfl rfl rfl (OpJ.move rfl rfl) ?_
                    refine AList.c 207 rfl rfl rfl (OpJ.indexG (g := Bk.gt [] (Bx.fR need l (n : Int))) (Bk.gt_get _) rfl rfl rfl sl52 el52 rfl (fun _ => rfl) (by decide) hj0) ?_
                    refine AList.c 208 rfl rfl rfl (OpJ.load (v := .p (.is ((Bk.gt [] (Bx.fR need l (n : Int)) j).flatMap Bx.i1) need.length)) rfl rfl ty45 rfl) ?_
                    refine AList.c 209 rfl rfl rfl (OpJ.move rfl rfl) ?_
                    refine AList.c 210 rfl rfl rfl (OpJ.indexG (g := Bk.gt 0 (Bk.gt [] (Bx.fR need l (n : Int)) j)) (Bk.gt_get _) rfl rfl rfl sl45 el45 hrj.symm (fun _ => rfl) (by decide) (by rw [hrj]; exact hk0)) ?_
                    refine AList.c 211 rfl rfl rfl (OpJ.load (v := .p (.int .i64 (Bk.gt 0 (Bk.gt [] (Bx.fR need l (n : Int)) j) i))) rfl rfl ty3 rfl) ?_
                    refine AList.c 212 rfl rfl rfl (OpJ.add (m := (Bx.colS (Bx.fR need l (n : Int)) i (j + 1))) rfl rfl rfl ((i64ok ?_).trans ?_)) ?_
                    · rw [← hst]; omega
                    · exact hst.symm
                    refine AList.c 32 rfl rfl rfl (OpJ.assign rfl rfl) ?_
                    refine AList.nil ?_
                    refine AWp.region ?_
                    refine AList.c 213 rfl rfl rfl (OpJ.add rfl rfl rfl (i64ok ?_)) ?_
                    · omega
                    refine AList.c 193 rfl rfl rfl (OpJ.move rfl rfl) ?_
                    refine AList.nil ?_
                    refine ⟨j + 1, ?_, ?_, ?_⟩
                    · exact hj0
                    · omega
                    exact To.done [] rfl (by repeat (first | exact Sub.nil | refine Sub.cons rfl ?_)) rfl
                · skip
                  have hj2 : j = (Bx.fR need l (n : Int)).length := by have h := of_decide_eq_false hc11; omega
                  subst hj2
                  refine AWp.exit ?_
                  refine AWp.seq ?_
                  refine AWp.region ?_
                  refine AList.c 214 rfl rfl rfl (OpJ.move rfl rfl) ?_
                  refine AList.c 215 rfl rfl rfl (OpJ.move rfl rfl) ?_
                  refine AList.c 216 rfl rfl rfl (OpJ.move rfl rfl) ?_
                  refine AList.c 217 rfl rfl rfl (OpJ.indexG (g := Bk.gt 0 (havF cs need.length n 0)) (Bk.gt_get _) rfl rfl rfl sl45 el45 rfl (fun _ => rfl) (by decide) (by rw [havF_len]; exact hk0)) ?_
                  refine AList.c 218 rfl rfl rfl (OpJ.load (v := .p (.int .i64 (Bk.gt 0 (havF cs need.length n 0) i))) rfl rfl ty3 rfl) ?_
                  refine AList.c 219 rfl rfl rfl (OpJ.neq rfl rfl rfl) ?_
                  refine AList.nil ?_
                  refine AWp.cond _ rfl (fun hc13 => ?_) (fun hc13 => ?_)
                  · skip
                    exfalso
                    have e1 := hA.col i hk0
                    rw [← hA.len] at e1
                    have e2 := havF_get (cs := cs) (i := n) (t := 0) hk0
                    have e3 := hcc i hk0
                    have e4 := (hN _ (Bk.gt_mem 0 hk0)).1
                    have e5 : need[i]?.getD 0 = Bk.gt 0 need i := by rw [← Bk.gt_get 0 i hk0]; simp [hk0]
                    rw [e1, e2, e3, e5] at hc13
                    simp [Int.toNat_of_nonneg e4] at hc13
                  · skip
                    refine AWp.skip ?_
                    refine AWp.region ?_
                    refine AList.c 220 rfl rfl rfl (OpJ.add rfl rfl rfl (i64ok ?_)) ?_
                    · omega
                    refine AList.c 188 rfl rfl rfl (OpJ.move rfl rfl) ?_
                    refine AList.nil ?_
                    refine ⟨i + 1, ?_, ?_, ?_⟩
                    · exact hk0
                    · omega
                    exact To.done [] rfl (by repeat (first | exact Sub.nil | refine Sub.cons rfl ?_)) rfl
              · skip
                refine AWp.exit ?_
                refine AWp.seq ?_
                refine AWp.region ?_
                refine AList.c 221 rfl rfl rfl (OpJ.callP (awake14_ok) rfl rfl rfl rfl rf6) ?_
                refine AList.c 8 rfl rfl rfl (OpJ.assign rfl rfl) ?_
                refine AList.nil ?_
                refine AWp.ret ?_
                first | exact Fin.oneE rfl rfl rfl | (refine Fin.oneE rfl rfl ?_; rcases hE with e | e <;> rw [e] <;> rfl)
end Go.Proofs.YtbnemnhmejmeeaaGreatDoor
end

section
set_option linter.unusedVariables false
set_option maxRecDepth 100000
set_option maxHeartbeats 4000000
set_option linter.unusedSimpArgs false
namespace Go.Proofs.YtbnemnhmejmeeaaGreatDoor
open Go.AF
theorem i1_of {el : List PV} (h : TyL [.leaf (.int .i64)] el) : ∃ n : Int, el = Bx.i1 n := by
  obtain ⟨n, rfl⟩ := int_of h
  exact ⟨n, rfl⟩
theorem pr_of {el : List PV} (h : TyL [.leaf (.int .i64), .leaf (.int .i64)] el) : ∃ p : Bx.Pr, el = p.cells := by
  obtain ⟨xs, h1, h2⟩ := ints_of (n := 2) h
  match xs, h1 with
  | [a, b], _ => exact ⟨⟨a, b⟩, h2⟩
theorem topPacks_law {x0 x1 x2 x3 : List PV} (h0 : TyL [.sl [.leaf (.int .i64)]] x0) (h1 : TyL [.sl [.leaf (.int .i64), .leaf (.int .i64)]] x1) (h2 : TyL [.leaf (.int .u8)] x2) (h3 : TyL [.leaf (.int .u16)] x3) : Pure Tryz.prog 4 [argP false x0, argP false x1, argP false x2, argP false x3] (.bool true) := by
  obtain ⟨need, rfl, hn⟩ := sl_of (fun _ => i1_of) h0
  obtain ⟨l, rfl, hl⟩ := sl_of (fun _ => pr_of) h1
  obtain ⟨b, rfl⟩ := Bk.u8_of h2
  obtain ⟨a, rfl, ha⟩ := Bk.u16_of h3
  exact topPacks_main need l b.toNat a hn hl (by have := b.toNat_lt; omega) ha
end Go.Proofs.YtbnemnhmejmeeaaGreatDoor
end
