/-
  The law TopCards.
-/
import Derived.Test.YtgpbpdepkagjiaaDoorRqA
import Derived.Test.YtgpbpdepkagjiaaDoorNqD
import Derived.Test.YtgpbpdepkagjiaaDoorTqP
section
set_option linter.unusedVariables false
set_option maxRecDepth 100000
set_option maxHeartbeats 4000000
set_option linter.unusedSimpArgs false
namespace Go.Proofs.YtgpbpdepkagjiaaDoor
open Go.AF
theorem awpP : Pure Tryd.prog 12 [.is [.int .i64 7, .is [.int .i64 0, .int .i64 1, .int .i64 2, .int .i64 3, .int .i64 5, .int .i64 8, .int .i64 8] 7] 1] (.tuple [.str (sB awT), .int .i64 0]) := by
  have h := Bk.writePacks_ok [⟨7, [0, 1, 2, 3, 5, 8, 8]⟩] (by decide) (by decide)
  rwa [aw_P] at h
theorem awpR : Pure Tryd.prog 13 [.is [.int .i64 15, .is [] 0, .int .i64 100, .int .i64 100, .int .i64 0, .int .i64 5] 1] (.tuple [.str (sB awS), .int .i64 0]) := by
  have h := Bk.writeReports_ok [⟨15, [], ⟨100, 100⟩, ⟨0, 5⟩⟩] (by decide) (by decide)
  rwa [aw_R] at h
theorem awpB : Pure Tryd.prog 14 [batV awB, .int .i64 2] (.tuple [.int .i64 ((7 : Nat) : Int), .int .i64 0]) := by
  have h := Back_ok awB 2 (by decide)
  rwa [aw_B.1, aw_B.2] at h
theorem wcs_ok {l : List Bat} {cs : List Bk.Crd} (hl : cs.length = l.length) (hb : l.length ≤ bigN) (hw : Bk.wrC cs = ((Bk.crdsTT cs ++ [Bk.sumB (Bk.crdsTT cs)]), 0)) : Pure Tryd.prog 6 [.is (cs.flatMap Bk.Crd.cells) l.length] (.tuple [.str (sB (Bk.crdsTT cs ++ [Bk.sumB (Bk.crdsTT cs)])), .int .i64 0]) := by
  have h := Bk.writeCards_ok cs (by rw [hl]; exact hb)
  rw [hw] at h
  unfold Bk.crdsV at h
  rwa [hl] at h
theorem rcs_ok {s : Bk.Bs} {v : PV} {e : Int} (h : Bk.rdC s = (v, e)) : Pure Tryd.prog 7 [.str (sB s)] (.tuple [v, .int .i64 e]) := by
  have h2 := Bk.readCards_ok s
  rwa [h] at h2
theorem awake14_ok  : Pure Tryd.prog 5 [] (.bool true) := by
  refine Pure.start (N := 52) Tryd.func5 rfl rfl (Nat.le_of_ble_eq_true rfl) ?_
  refine AWp.seq ?_
  refine AWp.region ?_
  refine AList.c 0 rfl rfl rfl (OpJ.assign rfl rfl) ?_
  refine AList.nil ?_
  refine AWp.seq ?_
  refine AWp.region ?_
  refine AList.c 8 rfl rfl rfl (OpJ.buildImm rfl slz47 (by decide) rfl rfl rfl) ?_
  refine AList.c 9 rfl rfl rfl (OpJ.build rfl bd49 rfl rfl) ?_
  refine AList.c 10 rfl rfl rfl (OpJ.buildImm rfl slz50 (by decide) rfl rfl rfl) ?_
  refine AList.c 11 rfl rfl rfl (OpJ.callP (awpP) rfl rfl rfl rfl rf12) ?_
  refine AList.c 7 rfl rfl rfl (OpJ.move rfl rfl) ?_
  refine AList.c 12 rfl rfl rfl (OpJ.extract rfl rfl rfl) ?_
  refine AList.c 13 rfl rfl rfl (OpJ.extract rfl rfl rfl) ?_
  refine AList.c 1 rfl rfl rfl (OpJ.assign rfl rfl) ?_
  refine AList.c 2 rfl rfl rfl (OpJ.assign rfl rfl) ?_
  refine AList.nil ?_
  refine AWp.seq ?_
  refine AWp.region ?_
  refine AList.c 15 rfl rfl rfl (OpJ.build rfl bd39 rfl rfl) ?_
  refine AList.c 16 rfl rfl rfl (OpJ.build rfl bd39 rfl rfl) ?_
  refine AList.c 17 rfl rfl rfl (OpJ.build rfl bd54 rfl rfl) ?_
  refine AList.to (To.wkS 17 rfl) ?_
  refine AList.c 18 rfl rfl rfl (OpJ.buildImm rfl slz55 (by decide) rfl rfl rfl) ?_
  refine AList.c 19 rfl rfl rfl (OpJ.callP (awpR) rfl rfl rfl rfl rf13) ?_
  refine AList.c 14 rfl rfl rfl (OpJ.move rfl rfl) ?_
  refine AList.c 20 rfl rfl rfl (OpJ.extract rfl rfl rfl) ?_
  refine AList.c 21 rfl rfl rfl (OpJ.extract rfl rfl rfl) ?_
  refine AList.c 3 rfl rfl rfl (OpJ.assign rfl rfl) ?_
  refine AList.c 4 rfl rfl rfl (OpJ.assign rfl rfl) ?_
  refine AList.nil ?_
  refine AWp.seq ?_
  refine AWp.region ?_
  refine AList.c 23 rfl rfl rfl (OpJ.build rfl bd28 rfl rfl) ?_
  refine AList.c 24 rfl rfl rfl (OpJ.build rfl bd28 rfl rfl) ?_
  refine AList.c 25 rfl rfl rfl (OpJ.build rfl bd28 rfl rfl) ?_
  refine AList.c 26 rfl rfl rfl (OpJ.buildImm rfl slz22 (by decide) rfl rfl rfl) ?_
  refine AList.c 27 rfl rfl rfl (OpJ.callP (awpB) rfl rfl rfl rfl rf14) ?_
  refine AList.c 22 rfl rfl rfl (OpJ.move rfl rfl) ?_
  refine AList.c 28 rfl rfl rfl (OpJ.extract rfl rfl rfl) ?_
  refine AList.c 29 rfl rfl rfl (OpJ.extract rfl rfl rfl) ?_
  refine AList.c 5 rfl rfl rfl (OpJ.assign rfl rfl) ?_
  refine AList.c 6 rfl rfl rfl (OpJ.assign rfl rfl) ?_
  refine AList.nil ?_
  refine AWp.seq ?_
  refine AWp.region ?_
  refine AList.c 30 rfl rfl rfl (OpJ.move rfl rfl) ?_
  refine AList.c 31 rfl rfl rfl (OpJ.strEq awT awT rfl rfl rfl) ?_
  refine AList.c 32 rfl rfl rfl (OpJ.move rfl rfl) ?_
  refine AList.g 33 32 rfl rfl rfl rfl rfl rfl rfl [(2, _)] (fun h => And.intro (.inl rfl) (trivial)) (fun h => (OpJ.move rfl rfl)) ?_
  refine AList.g 34 32 rfl rfl rfl rfl rfl rfl rfl [(33, _)] (fun h => And.intro (.inr ⟨_, rfl, h⟩) (trivial)) (fun h => (OpJ.eql rfl rfl rfl)) ?_
  refine AList.c 35 rfl rfl rfl (OpJ.and_ rfl rfl rfl ?_) ?_
  · first | (intro h; rw [h]; rfl) | (intro h; simp_all)
  refine AList.c 36 rfl rfl rfl (OpJ.move rfl rfl) ?_
  refine AList.g 37 36 rfl rfl rfl rfl rfl rfl rfl [(3, _)] (fun h => And.intro (.inl rfl) (trivial)) (fun h => (OpJ.move rfl rfl)) ?_
  refine AList.g 38 36 rfl rfl rfl rfl rfl rfl rfl [(37, _)] (fun h => And.intro (.inr ⟨_, rfl, h⟩) (trivial)) (fun h => (OpJ.strEq awS awS rfl rfl rfl)) ?_
  refine AList.c 39 rfl rfl rfl (OpJ.and_ rfl rfl rfl ?_) ?_
  · first | (intro h; rw [h]; rfl) | (intro h; simp_all)
  refine AList.c 40 rfl rfl rfl (OpJ.move rfl rfl) ?_
  refine AList.g 41 40 rfl rfl rfl rfl rfl rfl rfl [(4, _)] (fun h => And.intro (.inl rfl) (trivial)) (fun h => (OpJ.move rfl rfl)) ?_
  refine AList.g 42 40 rfl rfl rfl rfl rfl rfl rfl [(41, _)] (fun h => And.intro (.inr ⟨_, rfl, h⟩) (trivial)) (fun h => (OpJ.eql rfl rfl rfl)) ?_
  refine AList.c 43 rfl rfl rfl (OpJ.and_ rfl rfl rfl ?_) ?_
  · first | (intro h; rw [h]; rfl) | (intro h; simp_all)
  refine AList.c 44 rfl rfl rfl (OpJ.move rfl rfl) ?_
  refine AList.g 45 44 rfl rfl rfl rfl rfl rfl rfl [(5, _)] (fun h => And.intro (.inl rfl) (trivial)) (fun h => (OpJ.move rfl rfl)) ?_
  refine AList.g 46 44 rfl rfl rfl rfl rfl rfl rfl [(45, _)] (fun h => And.intro (.inr ⟨_, rfl, h⟩) (trivial)) (fun h => (OpJ.eql rfl rfl rfl)) ?_
  refine AList.c 47 rfl rfl rfl (OpJ.and_ rfl rfl rfl ?_) ?_
  · first | (intro h; rw [h]; rfl) | (intro h; simp_all)
  refine AList.c 48 rfl rfl rfl (OpJ.move rfl rfl) ?_
  refine AList.g 49 48 rfl rfl rfl rfl rfl rfl rfl [(6, _)] (fun h => And.intro (.inl rfl) (trivial)) (fun h => (OpJ.move rfl rfl)) ?_
  refine AList.g 50 48 rfl rfl rfl rfl rfl rfl rfl [(49, _)] (fun h => And.intro (.inr ⟨_, rfl, h⟩) (trivial)) (fun h => (OpJ.eql rfl rfl rfl)) ?_
  refine AList.c 51 rfl rfl rfl (OpJ.and_ rfl rfl rfl ?_) ?_
  · first | (intro h; rw [h]; rfl) | (intro h; simp_all)
  refine AList.c 0 rfl rfl rfl (OpJ.assign rfl rfl) ?_
  refine AList.nil ?_
  refine AWp.ret ?_
  refine Fin.oneE rfl rfl ?_
  simp
theorem topCards_main (l : List Bat) (bad good : Int) (a : Nat) (y : UInt8) (hb : l.length ≤ bigN) (ha : a ≤ 65535) : Pure Tryd.prog 3 [batV l, .int .i64 bad, .int .i64 good, .int .u16 (a : Int), .int .u8 (y.toNat : Int)] (.bool true) := by
  refine Pure.start (N := 201) Tryd.func3 rfl rfl (Nat.le_of_ble_eq_true rfl) ?_
  refine AWp.seq ?_
  refine AWp.region ?_
  refine AList.c 10 rfl rfl rfl (OpJ.assign rfl rfl) ?_
  refine AList.nil ?_
  refine AWp.seq ?_
  refine AWp.seq ?_
  refine AWp.region ?_
  refine AList.c 34 rfl rfl rfl (OpJ.move rfl rfl) ?_
  refine AList.c 35 rfl rfl rfl (OpJ.callP (rcards_ok l hb) rfl rfl rfl rfl rf4) ?_
  refine AList.c 36 rfl rfl rfl (OpJ.not_ rfl rfl) ?_
  refine AList.nil ?_
  refine AWp.cond _ rfl (fun hc0 => ?_) (fun hc0 => ?_)
  · skip
    refine AWp.seq ?_
    refine AWp.region ?_
    refine AList.c 37 rfl rfl rfl (OpJ.callP (awake14_ok) rfl rfl rfl rfl rf5) ?_
    refine AList.c 10 rfl rfl rfl (OpJ.assign rfl rfl) ?_
    refine AList.nil ?_
    refine AWp.ret ?_
    first | exact Fin.oneE rfl rfl rfl | (refine Fin.oneE rfl rfl ?_; rcases hee with rfl | rfl <;> rfl)
  · skip
    have hC : crdOk l := by simpa using hc0
    have h24 := crd24 hC
    refine AWp.skip ?_
    refine AWp.seq ?_
    refine AWp.region ?_
    refine AList.c 11 rfl rfl rfl (OpJ.assign rfl rfl) ?_
    refine AList.nil ?_
    refine AWp.seq ?_
    refine AWp.seq ?_
    refine AWp.region ?_
    refine AList.c 38 rfl rfl rfl (OpJ.move rfl rfl) ?_
    refine AList.c 39 rfl rfl rfl (OpJ.lenSlice rfl rfl sl22 rfl) ?_
    refine AList.c 40 rfl rfl rfl (OpJ.move rfl rfl) ?_
    refine AList.nil ?_
    refine AWp.block ?_
    refine AWp.loopHL [0, 1, 2, 3, 4, 14, 15, 16, 17, 18, 19, 20, 21, 22, 23, 24, 25, 26, 27, 28, 29, 30, 31, 32, 33, 38, 39, 63, 64, 65, 66, 67, 68, 69, 70, 71, 72, 73, 74, 75, 76, 77, 78, 79, 80, 81, 82, 83, 84, 85, 86, 87, 88, 89, 90, 91, 92, 93, 94, 95, 96, 97, 98, 99, 100, 101, 102, 103, 104, 105, 106, 107, 108, 109, 110, 111, 112, 113, 114, 115, 116, 117, 118, 119, 120, 121, 122, 123, 124, 125, 126, 127, 128, 129, 130, 131, 132, 133, 134, 135, 136, 137, 138, 139, 140, 141, 142, 143, 144, 145, 146, 147, 148, 149, 150, 151, 152, 153, 154, 155, 156, 157, 158, 159, 160, 161, 162, 163, 164, 165, 166, 167, 168, 169, 170, 171, 172, 173, 174, 175, 176, 177, 178, 179, 180, 181, 182, 183, 184, 185, 186, 187, 188, 189, 190, 191, 192, 193, 194, 195, 196, 197, 198, 199, 200] (fun g => [(40, .p (.int .i64 ((g : Nat) : Int))), (11, accV 0 g)]) (fun g => [accB (((crdsOf l g).flatMap Bk.Crd.cells).map .p) 30 g]) (fun g => g ≤ l.length ∧ ∀ j, j < g → (bt l j).f ≤ 255) (fun g => l.length - g) 0 ⟨Nat.zero_le _, fun j hj => absurd hj (by omega)⟩ (To.pad.trans (To.sub (Sub.chk (Sub.cons rfl (Sub.cons rfl Sub.nil))))) (fun i ⟨hi, h8⟩ => ?_)
    refine AWp.seq ?_
    refine AWp.region ?_
    refine AList.c 41 rfl rfl rfl (OpJ.lss rfl rfl rfl) ?_
    refine AList.nil ?_
    refine AWp.seq ?_
    refine AWp.cond _ rfl (fun hc1 => ?_) (fun hc1 => ?_)
    · skip
      have hk0 : i < l.length := by have h := of_decide_eq_true hc1; omega
      refine AWp.skip ?_
      refine AWp.seq ?_
      refine AWp.block ?_
      refine AWp.seq ?_
      refine AWp.region ?_
      refine AList.c 42 rfl rfl rfl (OpJ.move rfl rfl) ?_
      refine AList.c 43 rfl rfl rfl (OpJ.indexG (g := bt l) bt_get rfl rfl rfl sl22 el22 rfl (fun _ => rfl) (by decide) hk0) ?_
      refine AList.c 44 rfl rfl rfl (OpJ.load (v := .p (.agg (bt l i).cells)) rfl rfl ty28 rfl) ?_
      refine AList.c 13 rfl rfl rfl (OpJ.allocOwn rfl zr28 rfl) ?_
      refine AList.c 12 rfl rfl rfl (OpJ.assign rfl rfl) ?_
      refine AList.c0 rfl rfl (OpJ.store (H' := [accB (((crdsOf l i).flatMap Bk.Crd.cells).map .p) 30 i, .cells ((bt l i).cells.map .p) 28]) rfl rfl rfl rfl rfl ty28 rfl rfl) ?_
      refine AList.nil ?_
      refine AWp.seq ?_
      refine AWp.seq ?_
      refine AWp.region ?_
      refine AList.c 45 rfl rfl rfl (OpJ.fieldAddr rfl rfl fd28_0 rfl) ?_
      refine AList.c 46 rfl rfl rfl (OpJ.load (v := .p (.int .i64 (bt l i).f)) rfl rfl ty3 rfl) ?_
      refine AList.c 47 rfl rfl rfl (OpJ.gtr rfl rfl rfl) ?_
      refine AList.nil ?_
      refine AWp.cond _ rfl (fun hc2 => ?_) (fun hc2 => ?_)
      · skip
        refine AWp.seq ?_
        refine AWp.region ?_
        refine AList.c 48 rfl rfl rfl (OpJ.callP (awake14_ok) rfl rfl rfl rfl rf5) ?_
        refine AList.c 10 rfl rfl rfl (OpJ.assign rfl rfl) ?_
        refine AList.nil ?_
        refine AWp.ret ?_
        first | exact Fin.oneE rfl rfl rfl | (refine Fin.oneE rfl rfl ?_; rcases hee with rfl | rfl <;> rfl)
      · skip
        have h255 : (bt l i).f ≤ 255 := by have h := of_decide_eq_false hc2; omega
        refine AWp.skip ?_
        refine AWp.region ?_
        refine AList.c 49 rfl rfl rfl (OpJ.move rfl rfl) ?_
        refine AList.c 50 rfl rfl rfl (OpJ.move rfl rfl) ?_
        refine AList.c 51 rfl rfl rfl (OpJ.mul rfl rfl rfl (i64ok ?_)) ?_
        · omega
        refine AList.c 52 rfl rfl rfl (OpJ.move rfl rfl) ?_
        refine AList.c 53 rfl rfl rfl (OpJ.move rfl rfl) ?_
        refine AList.c 54 rfl rfl rfl (OpJ.rem (m := ((i % 8 : Nat) : Int)) rfl rfl rfl ?_ ?_) ?_
        · decide
        · rfl
        refine AList.c 55 rfl rfl rfl (OpJ.fieldAddr rfl rfl fd28_0 rfl) ?_
        refine AList.c 56 rfl rfl rfl (OpJ.load (v := .p (.int .i64 (bt l i).f)) rfl rfl ty3 rfl) ?_
        refine AList.c 57 rfl rfl rfl (OpJ.fieldAddr rfl rfl fd28_1 rfl) ?_
        refine AList.c 58 rfl rfl rfl (OpJ.load (v := .p (.int .i64 (bt l i).s)) rfl rfl ty3 rfl) ?_
        refine AList.c 59 rfl rfl rfl (OpJ.buildR (v := .p (.agg (crdOf l i).cells)) rfl bd30 rfl rfl rfl) ?_
        refine AList.c 60 rfl rfl rfl (OpJ.buildImm rfl slz26 (by decide) rfl rfl rfl) ?_
        refine AList.c 61 rfl rfl rfl (OpJ.appendAcc rfl rfl rfl slz26 sl26 rfl ?_ rfl (by decide) rfl by30 (by decide) ?_) ?_
        · rw [List.length_map, AF.flat_len (c := 5) (fun _ => rfl), crdsOf_len]; rfl
        · show (2 * (i + 1) + 192) * 40 ≤ 281474976710656; omega
        refine AList.c 11 rfl rfl rfl (OpJ.assign rfl rfl) ?_
        refine AList.nil ?_
        refine AWp.region ?_
        refine AList.c 62 rfl rfl rfl (OpJ.add rfl rfl rfl (i64ok ?_)) ?_
        · omega
        refine AList.c 40 rfl rfl rfl (OpJ.move rfl rfl) ?_
        refine AList.nil ?_
        refine ⟨i + 1, ?_, ?_, ?_⟩
        · exact ⟨hk0, fun j hj => by rcases Nat.lt_succ_iff_lt_or_eq.1 hj with h1 | rfl; exact h8 j h1; exact h255⟩
        · omega
        rw [crdsOf_cells]
        refine To.done [2] rfl (by repeat (first | exact Sub.nil | refine Sub.cons rfl ?_)) ?_
        show [Blk.row (renL _ (_ ++ _)) _] = [Blk.row _ _]
        rw [renL_app, renL_pure, List.map_append]
        rfl
    · skip
      have hi2 : i = l.length := by have h := of_decide_eq_false hc1; omega
      subst hi2
      refine AWp.to (To.accD 11 0 l.length (xs := (crdsOf l l.length).flatMap Bk.Crd.cells) rfl rfl (fun h => by rw [h]; rfl)) ?_
      have hw := crdsOf_wr hC h8
      have hat := fun (j : Nat) (hj : j < l.length) => crdsOf_at l hj
      have hlen := crdsOf_len l l.length
      generalize (crdsOf l l.length) = cs at hw hat hlen ⊢
      have hwo := Bk.wrC_ok (l := cs) (by rw [hw])
      obtain ⟨_, _, _, hT, hrd⟩ := hwo
      have hs1 : (Bk.crdsTT cs ++ [Bk.sumB (Bk.crdsTT cs)]).length = (Bk.crdsTT cs).length + 1 := by simp
      refine AWp.norm [] [(0, _), (1, _), (2, _), (3, _), (4, _), (11, _)] [] rfl (by repeat (first | exact Sub.nil | refine Sub.cons rfl ?_)) rfl ?_
      refine AWp.exit ?_
      refine AWp.seq ?_
      refine AWp.region ?_
      refine AList.c 64 rfl rfl rfl (OpJ.move rfl rfl) ?_
      refine AList.c 65 rfl rfl rfl (OpJ.callP (wcs_ok hlen hb hw) rfl rfl rfl rfl rf6) ?_
      refine AList.c 63 rfl rfl rfl (OpJ.move rfl rfl) ?_
      refine AList.c 66 rfl rfl rfl (OpJ.extract rfl rfl rfl) ?_
      refine AList.c 67 rfl rfl rfl (OpJ.extract rfl rfl rfl) ?_
      refine AList.c 14 rfl rfl rfl (OpJ.assign rfl rfl) ?_
      refine AList.c 15 rfl rfl rfl (OpJ.assign rfl rfl) ?_
      refine AList.nil ?_
      refine AWp.seq ?_
      refine AWp.region ?_
      refine AList.c 69 rfl rfl rfl (OpJ.move rfl rfl) ?_
      refine AList.c 70 rfl rfl rfl (OpJ.callP (rcs_ok hrd) rfl rfl rfl rfl rf7) ?_
      refine AList.c 68 rfl rfl rfl (OpJ.move rfl rfl) ?_
      refine AList.c 71 rfl rfl rfl (OpJ.extract rfl rfl rfl) ?_
      refine AList.c 72 rfl rfl rfl (OpJ.extract rfl rfl rfl) ?_
      refine AList.c 16 rfl rfl rfl (OpJ.assign rfl rfl) ?_
      refine AList.c 17 rfl rfl rfl (OpJ.assign rfl rfl) ?_
      refine AList.nil ?_
      refine AWp.seq ?_
      refine AWp.seq ?_
      refine AWp.region ?_
      refine AList.c 73 rfl rfl rfl (OpJ.move rfl rfl) ?_
      refine AList.c 74 rfl rfl rfl (OpJ.neq rfl rfl rfl) ?_
      refine AList.c 75 rfl rfl rfl (OpJ.move rfl rfl) ?_
      refine AList.g 76 75 rfl rfl rfl rfl rfl rfl rfl [(17, _)] (fun h => And.intro (.inl rfl) (trivial)) (fun h => (OpJ.move rfl rfl)) ?_
      refine AList.g 77 75 rfl rfl rfl rfl rfl rfl rfl [(76, _)] (fun h => And.intro (.inr ⟨_, rfl, h⟩) (trivial)) (fun h => (OpJ.neq rfl rfl rfl)) ?_
      refine AList.c 78 rfl rfl rfl (OpJ.or_ rfl rfl rfl ?_) ?_
      · first | (intro h; rw [h]; rfl) | (intro h; simp_all)
      refine AList.c 79 rfl rfl rfl (OpJ.move rfl rfl) ?_
      refine AList.g 80 79 rfl rfl rfl rfl rfl rfl rfl [(16, _)] (fun h => And.intro (.inl rfl) (trivial)) (fun h => (OpJ.move rfl rfl)) ?_
      refine AList.g 81 79 rfl rfl rfl rfl rfl rfl rfl [(80, _)] (fun h => And.intro (.inr ⟨_, rfl, h⟩) (trivial)) (fun h => (OpJ.lenSlice rfl rfl sl26 rfl)) ?_
      refine AList.g 82 79 rfl rfl rfl rfl rfl rfl rfl [(0, _)] (fun h => And.intro (.inl rfl) (trivial)) (fun h => (OpJ.move rfl rfl)) ?_
      refine AList.g 83 79 rfl rfl rfl rfl rfl rfl rfl [(82, _)] (fun h => And.intro (.inr ⟨_, rfl, h⟩) (trivial)) (fun h => (OpJ.lenSlice rfl rfl sl22 rfl)) ?_
      refine AList.g 84 79 rfl rfl rfl rfl rfl rfl rfl [(81, _), (83, _)] (fun h => And.intro (.inr ⟨_, rfl, h⟩) (And.intro (.inr ⟨_, rfl, h⟩) (trivial))) (fun h => (OpJ.neq rfl rfl rfl)) ?_
      refine AList.c 85 rfl rfl rfl (OpJ.or_ rfl rfl rfl ?_) ?_
      · first | (intro h; rw [h]; rfl) | (intro h; simp_all)
      refine AList.nil ?_
      refine AWp.cond _ rfl (fun hc3 => ?_) (fun hc3 => ?_)
      · skip
        exfalso
        rw [hlen] at hc3
        simp at hc3
      · skip
        refine AWp.skip ?_
        refine AWp.seq ?_
        refine AWp.region ?_
        refine AList.c 86 rfl rfl rfl (OpJ.move rfl rfl) ?_
        refine AList.c 87 rfl rfl rfl (OpJ.lenSlice rfl rfl sl22 rfl) ?_
        refine AList.c 88 rfl rfl rfl (OpJ.makeSlice (n := l.length) (c := l.length) rfl rfl rfl slz22 by28 (by decide) (Nat.le_refl _) (by show 16 * l.length ≤ 281474976710656; omega)) ?_
        refine AList.c 18 rfl rfl rfl (OpJ.assign rfl rfl) ?_
        refine AList.nil ?_
        refine AWp.seq ?_
        refine AWp.seq ?_
        rw [agB_0]
        refine AWp.norm [0] [(0, _), (1, _), (2, _), (3, _), (4, _), (14, _), (16, _), (18, .row 0 l.length)] [.row (((agB l 0).flatMap Bat.cells).map .p) 28] rfl (by repeat (first | exact Sub.nil | refine Sub.cons rfl ?_)) (by show [Blk.row (renL _ (List.map V.p _)) _] = _; rw [renL_pure]) ?_
        refine AWp.region ?_
        refine AList.c 89 rfl rfl rfl (OpJ.move rfl rfl) ?_
        refine AList.c 90 rfl rfl rfl (OpJ.lenSlice rfl rfl sl26 rfl) ?_
        refine AList.c 91 rfl rfl rfl (OpJ.move rfl rfl) ?_
        refine AList.nil ?_
        refine AWp.block ?_
        refine AWp.loopHL [0, 1, 2, 3, 4, 14, 18, 21, 22, 23, 24, 25, 26, 27, 28, 29, 30, 31, 32, 33, 89, 90, 110, 111, 112, 113, 114, 115, 116, 117, 118, 119, 120, 121, 122, 123, 124, 125, 126, 127, 128, 129, 130, 131, 132, 133, 134, 135, 136, 137, 138, 139, 140, 141, 142, 143, 144, 145, 146, 147, 148, 149, 150, 151, 152, 153, 154, 155, 156, 157, 158, 159, 160, 161, 162, 163, 164, 165, 166, 167, 168, 169, 170, 171, 172, 173, 174, 175, 176, 177, 178, 179, 180, 181, 182, 183, 184, 185, 186, 187, 188, 189, 190, 191, 192, 193, 194, 195, 196, 197, 198, 199, 200] (fun g => [(91, .p (.int .i64 ((g : Nat) : Int)))]) (fun g => [.row (((agB l g).flatMap Bat.cells).map .p) 28]) (fun g => g ≤ l.length) (fun g => l.length - g) 0 (Nat.zero_le _) (To.sub (Sub.chk (Sub.cons rfl (Sub.nil)))) (fun i hi => ?_)
        refine AWp.seq ?_
        refine AWp.region ?_
        refine AList.c 92 rfl rfl rfl (OpJ.lss rfl rfl rfl) ?_
        refine AList.nil ?_
        refine AWp.seq ?_
        refine AWp.cond _ rfl (fun hc4 => ?_) (fun hc4 => ?_)
        · skip
          have hk0 : i < cs.length := by have h := of_decide_eq_true hc4; omega
          have hkl : i < l.length := by omega
          have hci := hat i hkl
          refine AWp.skip ?_
          refine AWp.seq ?_
          refine AWp.block ?_
          refine AWp.seq ?_
          refine AWp.region ?_
          refine AList.c 93 rfl rfl rfl (OpJ.move rfl rfl) ?_
          refine AList.c 94 rfl rfl rfl (OpJ.indexG (g := Bk.gt Bk.Crd.d cs) (Bk.gt_get _) rfl rfl rfl sl26 el26 rfl (fun _ => rfl) (by decide) hk0) ?_
          refine AList.c 95 rfl rfl rfl (OpJ.load (v := .p (.agg (Bk.gt Bk.Crd.d cs i).cells)) rfl rfl ty30 rfl) ?_
          refine AList.c 20 rfl rfl rfl (OpJ.allocOwn rfl zr30 rfl) ?_
          refine AList.c 19 rfl rfl rfl (OpJ.assign rfl rfl) ?_
          refine AList.c0 rfl rfl (OpJ.store (H' := [.row (((agB l i).flatMap Bat.cells).map .p) 28, .cells ((Bk.gt Bk.Crd.d cs i).cells.map .p) 30]) rfl rfl rfl rfl rfl ty30 rfl rfl) ?_
          refine AList.nil ?_
          refine AWp.seq ?_
          refine AWp.seq ?_
          refine AWp.region ?_
          refine AList.c 96 rfl rfl rfl (OpJ.fieldAddr rfl rfl fd30_0 rfl) ?_
          refine AList.c 97 rfl rfl rfl (OpJ.load (v := .p (.int .i64 (Bk.gt Bk.Crd.d cs i).number)) rfl rfl ty3 rfl) ?_
          refine AList.c 98 rfl rfl rfl (OpJ.move rfl rfl) ?_
          refine AList.c 99 rfl rfl rfl (OpJ.mul rfl rfl rfl (i64ok ?_)) ?_
          · omega
          refine AList.c 100 rfl rfl rfl (OpJ.neq rfl rfl rfl) ?_
          refine AList.nil ?_
          refine AWp.cond _ rfl (fun hc5 => ?_) (fun hc5 => ?_)
          · skip
            exfalso
            rw [hci] at hc5
            unfold crdOf at hc5
            simp at hc5
          · skip
            refine AWp.skip ?_
            refine AWp.region ?_
            refine AList.c 101 rfl rfl rfl (OpJ.move rfl rfl) ?_
            refine AList.c 102 rfl rfl rfl (OpJ.move rfl rfl) ?_
            refine AList.c 103 rfl rfl rfl (OpJ.fieldAddr rfl rfl fd30_3 rfl) ?_
            refine AList.c 104 rfl rfl rfl (OpJ.load (v := .p (.int .i64 (Bk.gt Bk.Crd.d cs i).places)) rfl rfl ty3 rfl) ?_
            refine AList.c 105 rfl rfl rfl (OpJ.fieldAddr rfl rfl fd30_4 rfl) ?_
            refine AList.c 106 rfl rfl rfl (OpJ.load (v := .p (.int .i64 (Bk.gt Bk.Crd.d cs i).many)) rfl rfl ty3 rfl) ?_
            refine AList.c 107 rfl rfl rfl (OpJ.buildR (v := .p (.agg [.int .i64 (Bk.gt Bk.Crd.d cs i).places, .int .i64 (Bk.gt Bk.Crd.d cs i).many])) rfl bd28 rfl rfl rfl) ?_
            refine AList.c 108 rfl rfl rfl (OpJ.indexRow rfl rfl rfl sl22 el22 hkl) ?_
            refine AList.c0 rfl rfl (OpJ.storeRow (f := Bat.cells) (c := 2) (k := i) (j := 0) (xs := (agB l i)) (z := (bt l i)) (ws := [.int .i64 (Bk.gt Bk.Crd.d cs i).places, .int .i64 (Bk.gt Bk.Crd.d cs i).many]) rfl rfl rfl rfl rfl ty28 rfl rfl rfl (by omega) (fun _ => rfl) (by rw [agB_len]; exact hkl) (Nat.le_refl 2) (by rw [hci]; rfl)) ?_
            refine AList.nil ?_
            refine AWp.region ?_
            refine AList.c 109 rfl rfl rfl (OpJ.add rfl rfl rfl (i64ok ?_)) ?_
            · omega
            refine AList.c 91 rfl rfl rfl (OpJ.move rfl rfl) ?_
            refine AList.nil ?_
            refine ⟨i + 1, ?_, ?_, ?_⟩
            · exact hkl
            · omega
            rw [← agB_succ l hkl]
            refine To.done [0] rfl (by repeat (first | exact Sub.nil | refine Sub.cons rfl ?_)) ?_
            show [Blk.row (renL _ (List.map V.p _)) _] = [Blk.row _ _]
            rw [renL_pure]
        · skip
          have hi2 : i = l.length := by have h := of_decide_eq_false hc4; omega
          subst hi2
          refine AWp.freeze 0 rfl (allP_map _) ?_
          refine AWp.norm [] [(0, _), (1, _), (2, _), (3, _), (4, _), (14, _), (18, .p (.is ((agB l l.length).flatMap Bat.cells) l.length))] [] rfl (by repeat (first | exact Sub.nil | refine Sub.cons rfl ?_)) rfl ?_
          rw [row_ag]
          refine AWp.exit ?_
          refine AWp.seq ?_
          refine AWp.region ?_
          refine AList.c 111 rfl rfl rfl (OpJ.move rfl rfl) ?_
          refine AList.c 112 rfl rfl rfl (OpJ.move rfl rfl) ?_
          refine AList.c 113 rfl rfl rfl (OpJ.move rfl rfl) ?_
          refine AList.c 114 rfl rfl rfl (OpJ.callP (Blame_ok l bad good hb) rfl rfl rfl rfl rf8) ?_
          refine AList.c 110 rfl rfl rfl (OpJ.move rfl rfl) ?_
          refine AList.c 115 rfl rfl rfl (OpJ.extract rfl rfl rfl) ?_
          refine AList.c 116 rfl rfl rfl (OpJ.extract rfl rfl rfl) ?_
          refine AList.c 21 rfl rfl rfl (OpJ.assign rfl rfl) ?_
          refine AList.c 22 rfl rfl rfl (OpJ.assign rfl rfl) ?_
          refine AList.nil ?_
          refine AWp.seq ?_
          refine AWp.region ?_
          refine AList.c 118 rfl rfl rfl (OpJ.move rfl rfl) ?_
          refine AList.c 119 rfl rfl rfl (OpJ.move rfl rfl) ?_
          refine AList.c 120 rfl rfl rfl (OpJ.move rfl rfl) ?_
          refine AList.c 121 rfl rfl rfl (OpJ.callP (Blame_ok l bad good hb) rfl rfl rfl rfl rf8) ?_
          refine AList.c 117 rfl rfl rfl (OpJ.move rfl rfl) ?_
          refine AList.c 122 rfl rfl rfl (OpJ.extract rfl rfl rfl) ?_
          refine AList.c 123 rfl rfl rfl (OpJ.extract rfl rfl rfl) ?_
          refine AList.c 23 rfl rfl rfl (OpJ.assign rfl rfl) ?_
          refine AList.c 24 rfl rfl rfl (OpJ.assign rfl rfl) ?_
          refine AList.nil ?_
          refine AWp.seq ?_
          refine AWp.region ?_
          refine AList.c 125 rfl rfl rfl (OpJ.move rfl rfl) ?_
          refine AList.c 126 rfl rfl rfl (OpJ.move rfl rfl) ?_
          refine AList.c 127 rfl rfl rfl (OpJ.move rfl rfl) ?_
          refine AList.c 128 rfl rfl rfl (OpJ.callP (Recall_ok l bad good hb) rfl rfl rfl rfl rf9) ?_
          refine AList.c 124 rfl rfl rfl (OpJ.move rfl rfl) ?_
          refine AList.c 129 rfl rfl rfl (OpJ.extract rfl rfl rfl) ?_
          refine AList.c 130 rfl rfl rfl (OpJ.extract rfl rfl rfl) ?_
          refine AList.c 131 rfl rfl rfl (OpJ.extract rfl rfl rfl) ?_
          refine AList.c 26 rfl rfl rfl (OpJ.allocOwn rfl zr39 rfl) ?_
          refine AList.c 25 rfl rfl rfl (OpJ.assign rfl rfl) ?_
          refine AList.c0 rfl rfl (OpJ.store rfl rfl rfl rfl rfl ty39 rfl rfl) ?_
          refine AList.c 27 rfl rfl rfl (OpJ.assign rfl rfl) ?_
          refine AList.nil ?_
          refine AWp.seq ?_
          refine AWp.region ?_
          refine AList.c 133 rfl rfl rfl (OpJ.move rfl rfl) ?_
          refine AList.c 134 rfl rfl rfl (OpJ.move rfl rfl) ?_
          refine AList.c 135 rfl rfl rfl (OpJ.move rfl rfl) ?_
          refine AList.c 136 rfl rfl rfl (OpJ.callP (Recall_ok l bad good hb) rfl rfl rfl rfl rf9) ?_
          refine AList.c 132 rfl rfl rfl (OpJ.move rfl rfl) ?_
          refine AList.c 137 rfl rfl rfl (OpJ.extract rfl rfl rfl) ?_
          refine AList.c 138 rfl rfl rfl (OpJ.extract rfl rfl rfl) ?_
          refine AList.c 139 rfl rfl rfl (OpJ.extract rfl rfl rfl) ?_
          refine AList.c 29 rfl rfl rfl (OpJ.allocOwn rfl zr39 rfl) ?_
          refine AList.c 28 rfl rfl rfl (OpJ.assign rfl rfl) ?_
          refine AList.c0 rfl rfl (OpJ.store rfl rfl rfl rfl rfl ty39 rfl rfl) ?_
          refine AList.c 30 rfl rfl rfl (OpJ.assign rfl rfl) ?_
          refine AList.nil ?_
          refine AWp.seq ?_
          refine AWp.seq ?_
          refine AWp.region ?_
          refine AList.c 140 rfl rfl rfl (OpJ.move rfl rfl) ?_
          refine AList.c 141 rfl rfl rfl (OpJ.move rfl rfl) ?_
          refine AList.c 142 rfl rfl rfl (OpJ.neq rfl rfl rfl) ?_
          refine AList.c 143 rfl rfl rfl (OpJ.move rfl rfl) ?_
          refine AList.g 144 143 rfl rfl rfl rfl rfl rfl rfl [(22, _)] (fun h => And.intro (.inl rfl) (trivial)) (fun h => (OpJ.move rfl rfl)) ?_
          refine AList.g 145 143 rfl rfl rfl rfl rfl rfl rfl [(24, _)] (fun h => And.intro (.inl rfl) (trivial)) (fun h => (OpJ.move rfl rfl)) ?_
          refine AList.g 146 143 rfl rfl rfl rfl rfl rfl rfl [(144, _), (145, _)] (fun h => And.intro (.inr ⟨_, rfl, h⟩) (And.intro (.inr ⟨_, rfl, h⟩) (trivial))) (fun h => (OpJ.neq rfl rfl rfl)) ?_
          refine AList.c 147 rfl rfl rfl (OpJ.or_ rfl rfl rfl ?_) ?_
          · first | (intro h; rw [h]; rfl) | (intro h; simp_all)
          refine AList.c 148 rfl rfl rfl (OpJ.move rfl rfl) ?_
          refine AList.g 149 148 rfl rfl rfl rfl rfl rfl rfl [(25, _)] (fun h => And.intro (.inl rfl) (trivial)) (fun h => (OpJ.move rfl rfl)) ?_
          refine AList.g 150 148 rfl rfl rfl rfl rfl rfl rfl [(28, _)] (fun h => And.intro (.inl rfl) (trivial)) (fun h => (OpJ.move rfl rfl)) ?_
          refine AList.g 151 148 rfl rfl rfl rfl rfl rfl rfl [(149, _), (150, _)] (fun h => And.intro (.inr ⟨_, rfl, h⟩) (And.intro (.inr ⟨_, rfl, h⟩) (trivial))) (fun h => (OpJ.neq rfl rfl rfl)) ?_
          refine AList.c 152 rfl rfl rfl (OpJ.or_ rfl rfl rfl ?_) ?_
          · first | (intro h; rw [h]; rfl) | (intro h; simp_all)
          refine AList.c 153 rfl rfl rfl (OpJ.move rfl rfl) ?_
          refine AList.g 154 153 rfl rfl rfl rfl rfl rfl rfl [(26, _)] (fun h => And.intro (.inl rfl) (trivial)) (fun h => (OpJ.load (v := .p (.agg [.int .i64 (recS l bad good).1, .int .i64 (recS l bad good).2])) rfl rfl ty39 rfl)) ?_
          refine AList.g 155 153 rfl rfl rfl rfl rfl rfl rfl [(29, _)] (fun h => And.intro (.inl rfl) (trivial)) (fun h => (OpJ.load (v := .p (.agg [.int .i64 (recS l bad good).1, .int .i64 (recS l bad good).2])) rfl rfl ty39 rfl)) ?_
          refine AList.g 156 153 rfl rfl rfl rfl rfl rfl rfl [(154, _), (155, _)] (fun h => And.intro (.inr ⟨_, rfl, h⟩) (And.intro (.inr ⟨_, rfl, h⟩) (trivial))) (fun h => (OpJ.eqAgg (d := 8) rfl (.inr rfl) rfl rfl (by decide) eq39 ty39 rfl eg39 rfl)) ?_
          refine AList.c 157 rfl rfl rfl (OpJ.or_ rfl rfl rfl ?_) ?_
          · first | (intro h; rw [h]; rfl) | (intro h; simp_all)
          refine AList.c 158 rfl rfl rfl (OpJ.move rfl rfl) ?_
          refine AList.g 159 158 rfl rfl rfl rfl rfl rfl rfl [(27, _)] (fun h => And.intro (.inl rfl) (trivial)) (fun h => (OpJ.move rfl rfl)) ?_
          refine AList.g 160 158 rfl rfl rfl rfl rfl rfl rfl [(30, _)] (fun h => And.intro (.inl rfl) (trivial)) (fun h => (OpJ.move rfl rfl)) ?_
          refine AList.g 161 158 rfl rfl rfl rfl rfl rfl rfl [(159, _), (160, _)] (fun h => And.intro (.inr ⟨_, rfl, h⟩) (And.intro (.inr ⟨_, rfl, h⟩) (trivial))) (fun h => (OpJ.neq rfl rfl rfl)) ?_
          refine AList.c 162 rfl rfl rfl (OpJ.or_ rfl rfl rfl ?_) ?_
          · first | (intro h; rw [h]; rfl) | (intro h; simp_all)
          refine AList.nil ?_
          refine AWp.cond _ rfl (fun hc6 => ?_) (fun hc6 => ?_)
          · skip
            exfalso
            simp at hc6
          · skip
            refine AWp.skip ?_
            refine AWp.seq ?_
            refine AWp.seq ?_
            refine AWp.region ?_
            refine AList.c 163 rfl rfl rfl (OpJ.move rfl rfl) ?_
            refine AList.c 164 rfl rfl rfl (OpJ.eql rfl rfl rfl) ?_
            refine AList.nil ?_
            refine AWp.cond _ rfl (fun hc7 => ?_) (fun hc7 => ?_)
            · skip
              refine AWp.seq ?_
              refine AWp.region ?_
              refine AList.c 165 rfl rfl rfl (OpJ.callP (awake14_ok) rfl rfl rfl rfl rf5) ?_
              refine AList.c 10 rfl rfl rfl (OpJ.assign rfl rfl) ?_
              refine AList.nil ?_
              refine AWp.ret ?_
              first | exact Fin.oneE rfl rfl rfl | (refine Fin.oneE rfl rfl ?_; rcases hee with rfl | rfl <;> rfl)
            · skip
              have hy : y ≠ 0 := fun e => by rw [e] at hc7; simp at hc7
              obtain ⟨k, hk⟩ : ∃ k, k = a % (Bk.crdsTT cs ++ [Bk.sumB (Bk.crdsTT cs)]).length := ⟨_, rfl⟩
              have hkl : k < (Bk.crdsTT cs ++ [Bk.sumB (Bk.crdsTT cs)]).length := by rw [hk]; exact Nat.mod_lt _ (by omega)
              obtain ⟨e, he, hee⟩ := Bk.byte_any hT hkl hy
              have he2 : Bk.rdC ((((Bk.crdsTT cs ++ [Bk.sumB (Bk.crdsTT cs)]).drop 0).take (k - 0) ++ [Bk.gt 0 (Bk.crdsTT cs ++ [Bk.sumB (Bk.crdsTT cs)]) k + y]) ++ ((Bk.crdsTT cs ++ [Bk.sumB (Bk.crdsTT cs)]).drop (k + 1)).take ((Bk.crdsTT cs ++ [Bk.sumB (Bk.crdsTT cs)]).length - (k + 1))) = (.nilSlice, e) := by rw [List.drop_zero, Nat.sub_zero, List.take_of_length_le (l := (Bk.crdsTT cs ++ [Bk.sumB (Bk.crdsTT cs)]).drop (k + 1)) (by rw [List.length_drop]; exact Nat.le_refl _)]; exact he
              refine AWp.skip ?_
              refine AWp.seq ?_
              refine AWp.region ?_
              refine AList.c 166 rfl rfl rfl (OpJ.move rfl rfl) ?_
              refine AList.c 167 rfl rfl rfl (OpJ.convInt rfl rfl (by rw [un23]; rfl) un3 (i64ok ?_)) ?_
              · omega
              refine AList.c 168 rfl rfl rfl (OpJ.move rfl rfl) ?_
              refine AList.c 169 rfl rfl rfl (OpJ.lenStr rfl rfl un9) ?_
              refine AList.c 170 rfl rfl rfl (OpJ.rem (m := (k : Int)) rfl rfl rfl ?_ ?_) ?_
              · rw [sB_size]; omega
              · rw [hk]; exact tmodN _ _
              refine AList.c 31 rfl rfl rfl (OpJ.assign rfl rfl) ?_
              refine AList.nil ?_
              refine AWp.seq ?_
              refine AWp.regionDraw 22 mixed (by kernel_rfl) (by decide) ?_
              refine AQuiet.cons 172 rfl rfl rfl (OpJ.move rfl rfl) ?_
              refine AQuiet.cons 173 rfl rfl rfl (OpJ.move rfl rfl) ?_
              refine AQuiet.cons 174 rfl rfl rfl (OpJ.strCut (Bk.crdsTT cs ++ [Bk.sumB (Bk.crdsTT cs)]) 0 k rfl rfl st9 rfl ⟨_, rfl⟩ (by omega) (by omega)) ?_
              refine AQuiet.cons 175 rfl rfl rfl (OpJ.move rfl rfl) ?_
              refine AQuiet.cons 176 rfl rfl rfl (OpJ.move rfl rfl) ?_
              refine AQuiet.cons 177 rfl rfl rfl (OpJ.strIx (Bk.crdsTT cs ++ [Bk.sumB (Bk.crdsTT cs)]) k (Bk.gt 0 (Bk.crdsTT cs ++ [Bk.sumB (Bk.crdsTT cs)]) k) rfl rfl rfl st9 (by rw [List.getElem?_eq_getElem hkl, Bk.gt_get 0 k hkl])) ?_
              refine AQuiet.cons 178 rfl rfl rfl (OpJ.move rfl rfl) ?_
              refine AQuiet.cons 179 rfl rfl rfl (OpJ.add (m := ((Bk.gt 0 (Bk.crdsTT cs ++ [Bk.sumB (Bk.crdsTT cs)]) k + y).toNat : Int)) rfl rfl rfl ?_) ?_
              · exact Bk.u8_add _ _
              refine AQuiet.cons 180 rfl rfl rfl (OpJ.buildImm rfl slz42 (by decide) rfl rfl rfl) ?_
              refine AQuiet.cons 181 rfl rfl rfl (OpJ.bytesStr [Bk.gt 0 (Bk.crdsTT cs ++ [Bk.sumB (Bk.crdsTT cs)]) k + y] rfl rfl bt42 st9) ?_
              refine AQuiet.cons 182 rfl rfl rfl (OpJ.strAdd _ _ rfl rfl rfl ?_) ?_
              · simp only [List.length_append, List.length_take, List.length_drop, List.length_singleton]; omega
              refine AQuiet.cons 183 rfl rfl rfl (OpJ.move rfl rfl) ?_
              refine AQuiet.cons 184 rfl rfl rfl (OpJ.move rfl rfl) ?_
              refine AQuiet.cons 185 rfl rfl rfl (OpJ.add (m := ((k + 1 : Nat) : Int)) rfl rfl rfl ((i64ok ?_).trans ?_)) ?_
              · omega
              · omega
              refine AQuiet.cons 186 rfl rfl rfl (OpJ.strCut (Bk.crdsTT cs ++ [Bk.sumB (Bk.crdsTT cs)]) (k + 1) (Bk.crdsTT cs ++ [Bk.sumB (Bk.crdsTT cs)]).length rfl rfl st9 ⟨_, rfl⟩ rfl (by omega) (by omega)) ?_
              refine AQuiet.cons 187 rfl rfl rfl (OpJ.strAdd _ _ rfl rfl rfl ?_) ?_
              · simp only [List.length_append, List.length_take, List.length_drop, List.length_singleton]; omega
              refine AQuiet.cons 188 rfl rfl rfl (OpJ.callP (rcs_ok he2) rfl rfl rfl rfl rf7) ?_
              refine AQuiet.cons 171 rfl rfl rfl (OpJ.move rfl rfl) ?_
              refine AQuiet.cons 189 rfl rfl rfl (OpJ.extract rfl rfl rfl) ?_
              refine AQuiet.cons 190 rfl rfl rfl (OpJ.extract rfl rfl rfl) ?_
              refine AQuiet.cons 32 rfl rfl rfl (OpJ.assign rfl rfl) ?_
              refine AQuiet.cons 33 rfl rfl rfl (OpJ.assign rfl rfl) ?_
              refine AQuiet.nil ?_
              refine AList.nil ?_
              refine AWp.seq ?_
              refine AWp.region ?_
              refine AList.c 191 rfl rfl rfl (OpJ.move rfl rfl) ?_
              refine AList.c 192 rfl rfl rfl (OpJ.lenSlice rfl rfl sl26 rfl) ?_
              refine AList.c 193 rfl rfl rfl (OpJ.eql rfl rfl rfl) ?_
              refine AList.c 194 rfl rfl rfl (OpJ.move rfl rfl) ?_
              refine AList.g 195 194 rfl rfl rfl rfl rfl rfl rfl [(33, _)] (fun h => And.intro (.inl rfl) (trivial)) (fun h => (OpJ.move rfl rfl)) ?_
              refine AList.g 196 194 rfl rfl rfl rfl rfl rfl rfl [(195, _)] (fun h => And.intro (.inr ⟨_, rfl, h⟩) (trivial)) (fun h => (OpJ.neq rfl rfl rfl)) ?_
              refine AList.c 197 rfl rfl rfl (OpJ.and_ rfl rfl rfl ?_) ?_
              · first | (intro h; rw [h]; rfl) | (intro h; simp_all)
              refine AList.c 198 rfl rfl rfl (OpJ.move rfl rfl) ?_
              refine AList.g 199 198 rfl rfl rfl rfl rfl rfl rfl [] (fun h => trivial) (fun h => (OpJ.callP (awake14_ok) rfl rfl rfl rfl rf5)) ?_
              refine AList.c 200 rfl rfl rfl (OpJ.and_ rfl rfl rfl ?_) ?_
              · first | (intro h; rw [h]; rfl) | (intro h; simp_all)
              refine AList.c 10 rfl rfl rfl (OpJ.assign rfl rfl) ?_
              refine AList.nil ?_
              refine AWp.ret ?_
              first | exact Fin.oneE rfl rfl rfl | (refine Fin.oneE rfl rfl ?_; rcases hee with rfl | rfl <;> rfl)
theorem topCards_law {x0 x1 x2 x3 x4 : List PV} (h0 : TyL [.sl [.leaf (.int .i64), .leaf (.int .i64)]] x0) (h1 : TyL [.leaf (.int .i64)] x1) (h2 : TyL [.leaf (.int .i64)] x2) (h3 : TyL [.leaf (.int .u16)] x3) (h4 : TyL [.leaf (.int .u8)] x4) : Pure Tryd.prog 3 [argP false x0, argP false x1, argP false x2, argP false x3, argP false x4] (.bool true) := by
  obtain ⟨l, rfl, hl⟩ := bats_of h0
  obtain ⟨b, rfl⟩ := int_of h1
  obtain ⟨g, rfl⟩ := int_of h2
  obtain ⟨a, rfl, ha⟩ := Bk.u16_of h3
  obtain ⟨y, rfl⟩ := Bk.u8_of h4
  exact topCards_main l b g a y hl ha
end Go.Proofs.YtgpbpdepkagjiaaDoor
end
