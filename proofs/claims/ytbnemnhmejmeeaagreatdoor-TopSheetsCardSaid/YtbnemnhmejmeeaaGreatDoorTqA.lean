/-
  What the document fixes, across recall and book.
  The law TopSheets.
-/
import Derived.Test.YtbnemnhmejmeeaaGreatDoorRqA
import Derived.Test.YtbnemnhmejmeeaaGreatDoorNqD
import Derived.Test.YtbnemnhmejmeeaaGreatDoorTqP
import Derived.Test.YtbnemnhmejmeeaaGreatDoorSqA
section
set_option linter.unusedVariables false
set_option maxRecDepth 100000
set_option maxHeartbeats 4000000
set_option linter.unusedSimpArgs false
namespace Go.Proofs.YtbnemnhmejmeeaaGreatDoor
open Go.AF
open Go.Proofs
theorem awpP : Pure Tryz.prog 16 [.is [.int .i64 7, .is [.int .i64 0, .int .i64 1, .int .i64 2, .int .i64 3, .int .i64 5, .int .i64 8, .int .i64 8] 7] 1] (.tuple [.str (sB awT), .int .i64 0]) := by
  have h := Bk.writePacks_ok [⟨7, [0, 1, 2, 3, 5, 8, 8]⟩] (by decide) (by decide)
  rwa [aw_P] at h
theorem awpR : Pure Tryz.prog 7 [.is [.int .i64 15, .is [] 0, .int .i64 100, .int .i64 100, .int .i64 0, .int .i64 5] 1] (.tuple [.str (sB awS), .int .i64 0]) := by
  have h := Bk.writeReports_ok [⟨15, [], ⟨100, 100⟩, ⟨0, 5⟩⟩] (by decide) (by decide)
  rwa [aw_R] at h
theorem awpB : Pure Tryz.prog 22 [Rx.batV awB, .int .i64 2] (.tuple [.int .i64 ((7 : Nat) : Int), .int .i64 0]) := by
  have h := Rx.Back_ok awB 2 (by decide)
  rwa [aw_B.1, aw_B.2] at h
theorem count_ok (s : Bk.Bs) : Pure Tryz.prog 9 [.str (sB s), .str (sB [10])] (.int .i64 ((s.count 10 : Nat) : Int)) :=
  Pure.ofGrow (us := [.string (sB s), .string (sB [10])]) (fun w I vs h => by
    obtain ⟨u, us, rfl, h2, u2, us2, rfl, h3, h4⟩ := h
    have h2 : u = .string (sB s) := h2
    have h3 : u2 = .string (sB [10]) := h3
    have h4 : us2 = [] := h4
    rw [h2, h3, h4]) fun w I hg => (Go.Proofs.Any.strings_Count_one Tryz.lays138 (sB s) 10 w).mono fun e w' ⟨h1, h2⟩ => ⟨_, h1, fun _ _ => rfl, 0, #[], by rw [h2, Go.Sort.grow_empty]; rfl⟩
theorem awake14_ok  : Pure Tryz.prog 6 [] (.bool true) := by
  refine Pure.start (N := 52) Tryz.func6 rfl rfl (Nat.le_of_ble_eq_true rfl) ?_
  refine AWp.seq ?_
  refine AWp.region ?_
  refine AList.c 0 rfl rfl rfl (OpJ.assign rfl rfl) ?_
  refine AList.nil ?_
  refine AWp.seq ?_
  refine AWp.region ?_
  refine AList.c 8 rfl rfl rfl (OpJ.buildImm rfl slz45 (by decide) rfl rfl rfl) ?_
  refine AList.c 9 rfl rfl rfl (OpJ.build rfl bd57 rfl rfl) ?_
  refine AList.c 10 rfl rfl rfl (OpJ.buildImm rfl slz55 (by decide) rfl rfl rfl) ?_
  refine AList.c 11 rfl rfl rfl (OpJ.callP (awpP) rfl rfl rfl rfl rf16) ?_
  refine AList.c 7 rfl rfl rfl (OpJ.move rfl rfl) ?_
  refine AList.c 12 rfl rfl rfl (OpJ.extract rfl rfl rfl) ?_
  refine AList.c 13 rfl rfl rfl (OpJ.extract rfl rfl rfl) ?_
  refine AList.c 1 rfl rfl rfl (OpJ.assign rfl rfl) ?_
  refine AList.c 2 rfl rfl rfl (OpJ.assign rfl rfl) ?_
  refine AList.nil ?_
  refine AWp.seq ?_
  refine AWp.region ?_
  refine AList.c 15 rfl rfl rfl (OpJ.build rfl bd30 rfl rfl) ?_
  refine AList.c 16 rfl rfl rfl (OpJ.build rfl bd30 rfl rfl) ?_
  refine AList.c 17 rfl rfl rfl (OpJ.build rfl bd35 rfl rfl) ?_
  refine AList.to (To.wkS 17 rfl) ?_
  refine AList.c 18 rfl rfl rfl (OpJ.buildImm rfl slz28 (by decide) rfl rfl rfl) ?_
  refine AList.c 19 rfl rfl rfl (OpJ.callP (awpR) rfl rfl rfl rfl rf7) ?_
  refine AList.c 14 rfl rfl rfl (OpJ.move rfl rfl) ?_
  refine AList.c 20 rfl rfl rfl (OpJ.extract rfl rfl rfl) ?_
  refine AList.c 21 rfl rfl rfl (OpJ.extract rfl rfl rfl) ?_
  refine AList.c 3 rfl rfl rfl (OpJ.assign rfl rfl) ?_
  refine AList.c 4 rfl rfl rfl (OpJ.assign rfl rfl) ?_
  refine AList.nil ?_
  refine AWp.seq ?_
  refine AWp.region ?_
  refine AList.c 23 rfl rfl rfl (OpJ.build rfl bd70 rfl rfl) ?_
  refine AList.c 24 rfl rfl rfl (OpJ.build rfl bd70 rfl rfl) ?_
  refine AList.c 25 rfl rfl rfl (OpJ.build rfl bd70 rfl rfl) ?_
  refine AList.c 26 rfl rfl rfl (OpJ.buildImm rfl slz71 (by decide) rfl rfl rfl) ?_
  refine AList.c 27 rfl rfl rfl (OpJ.callP (awpB) rfl rfl rfl rfl rf22) ?_
  refine AList.c 22 rfl rfl rfl (OpJ.move rfl rfl) ?_
  refine AList.c 28 rfl rfl rfl (OpJ.extract rfl rfl rfl) ?_
  refine AList.c 29 rfl rfl rfl (OpJ.extract rfl rfl rfl) ?_
  refine AList.c 5 rfl rfl rfl (OpJ.assign rfl rfl) ?_
  refine AList.c 6 rfl rfl rfl (OpJ.assign rfl rfl) ?_
  refine AList.nil ?_
  refine AWp.seq ?_
  refine AWp.region ?_
  refine AList.c 30 rfl rfl rfl (OpJ.move rfl rfl) ?_
  refine AList.c 31 rfl rfl rfl (OpJ.strEq awT awT rfl rfl rfl) ?_
  refine AList.c 32 rfl rfl rfl (OpJ.move rfl rfl) ?_
  refine AList.g 33 32 rfl rfl rfl rfl rfl rfl rfl [(2, _)] (fun h => And.intro (.inl rfl) (trivial)) (fun h => (OpJ.move rfl rfl)) ?_
  refine AList.g 34 32 rfl rfl rfl rfl rfl rfl rfl [(33, _)] (fun h => And.intro (.inr ⟨_, rfl, h⟩) (trivial)) (fun h => (OpJ.eql rfl rfl rfl)) ?_
  refine AList.c 35 rfl rfl rfl (OpJ.and_ rfl rfl rfl ?_) ?_
  · first | (intro h; rw [h]; rfl) | (intro h; simp_all)
  refine AList.c 36 rfl rfl rfl (OpJ.move rfl rfl) ?_
  refine AList.g 37 36 rfl rfl rfl rfl rfl rfl rfl [(3, _)] (fun h => And.intro (.inl rfl) (trivial)) (fun h => (OpJ.move rfl rfl)) ?_
  refine AList.g 38 36 rfl rfl rfl rfl rfl rfl rfl [(37, _)] (fun h => And.intro (.inr ⟨_, rfl, h⟩) (trivial)) (fun h => (OpJ.strEq awS awS rfl rfl rfl)) ?_
  refine AList.c 39 rfl rfl rfl (OpJ.and_ rfl rfl rfl ?_) ?_
  · first | (intro h; rw [h]; rfl) | (intro h; simp_all)
  refine AList.c 40 rfl rfl rfl (OpJ.move rfl rfl) ?_
  refine AList.g 41 40 rfl rfl rfl rfl rfl rfl rfl [(4, _)] (fun h => And.intro (.inl rfl) (trivial)) (fun h => (OpJ.move rfl rfl)) ?_
  refine AList.g 42 40 rfl rfl rfl rfl rfl rfl rfl [(41, _)] (fun h => And.intro (.inr ⟨_, rfl, h⟩) (trivial)) (fun h => (OpJ.eql rfl rfl rfl)) ?_
  refine AList.c 43 rfl rfl rfl (OpJ.and_ rfl rfl rfl ?_) ?_
  · first | (intro h; rw [h]; rfl) | (intro h; simp_all)
  refine AList.c 44 rfl rfl rfl (OpJ.move rfl rfl) ?_
  refine AList.g 45 44 rfl rfl rfl rfl rfl rfl rfl [(5, _)] (fun h => And.intro (.inl rfl) (trivial)) (fun h => (OpJ.move rfl rfl)) ?_
  refine AList.g 46 44 rfl rfl rfl rfl rfl rfl rfl [(45, _)] (fun h => And.intro (.inr ⟨_, rfl, h⟩) (trivial)) (fun h => (OpJ.eql rfl rfl rfl)) ?_
  refine AList.c 47 rfl rfl rfl (OpJ.and_ rfl rfl rfl ?_) ?_
  · first | (intro h; rw [h]; rfl) | (intro h; simp_all)
  refine AList.c 48 rfl rfl rfl (OpJ.move rfl rfl) ?_
  refine AList.g 49 48 rfl rfl rfl rfl rfl rfl rfl [(6, _)] (fun h => And.intro (.inl rfl) (trivial)) (fun h => (OpJ.move rfl rfl)) ?_
  refine AList.g 50 48 rfl rfl rfl rfl rfl rfl rfl [(49, _)] (fun h => And.intro (.inr ⟨_, rfl, h⟩) (trivial)) (fun h => (OpJ.eql rfl rfl rfl)) ?_
  refine AList.c 51 rfl rfl rfl (OpJ.and_ rfl rfl rfl ?_) ?_
  · first | (intro h; rw [h]; rfl) | (intro h; simp_all)
  refine AList.c 0 rfl rfl rfl (OpJ.assign rfl rfl) ?_
  refine AList.nil ?_
  refine AWp.ret ?_
  refine Fin.oneE rfl rfl ?_
  simp
end Go.Proofs.YtbnemnhmejmeeaaGreatDoor
end

section
set_option linter.unusedVariables false
set_option maxRecDepth 100000
set_option maxHeartbeats 4000000
set_option linter.unusedSimpArgs false
namespace Go.Proofs.YtbnemnhmejmeeaaGreatDoor
open Go.AF
theorem wrs_ok {l : List Sh.Lds} {rs : List Bk.Rpt} (hl : rs.length = l.length) (hb : l.length ≤ 10) (hn : ∀ r ∈ rs, r.strokes.length ≤ 6) (hw : Bk.wrR rs = (Bk.rptsT rs, 0)) : Pure Tryz.prog 7 [.is (rs.flatMap Bk.Rpt.cells) l.length] (.tuple [.str (sB (Bk.rptsT rs)), .int .i64 0]) := by
  have h := Bk.writeReports_ok rs (by unfold Bk.bigN; omega) (fun r hr => by have := hn r hr; unfold Bk.bigN; omega)
  rw [hw] at h
  unfold Bk.rptsV at h
  rwa [hl] at h
theorem rrs_ok {s : Bk.Bs} {v : PV} {e : Int} (h : Bk.opR s = (v, e)) : Pure Tryz.prog 8 [.str (sB s)] (.tuple [v, .int .i64 e]) := by
  have h2 := Bk.readReports_ok s
  rwa [h] at h2
theorem srs_ok {l : List Sh.Lds} {rs : List Bk.Rpt} (hl : rs.length = l.length) (hb : l.length ≤ 10) (hn : ∀ r ∈ rs, r.strokes.length ≤ 6) : Pure Tryz.prog 10 [Bk.rptsV rs, .is (rs.flatMap Bk.Rpt.cells) l.length] (.bool true) := by
  have hB : ∀ r ∈ rs, r.strokes.length ≤ Bk.bigN := fun r hr => by have := hn r hr; unfold Bk.bigN; omega
  have h := Bk.sameR_ok rs rs (by unfold Bk.bigN; omega) (by unfold Bk.bigN; omega) hB hB
  rw [decide_eq_true rfl] at h
  unfold Bk.rptsV at h ⊢
  rwa [hl] at h ⊢
theorem blackY {a : Nat} {rs : List Bk.Rpt} {c : List Sh.Tnt} {l : List Sh.Lds} {i : Nat} (h : Bk.gt Bk.Rpt.d rs i = rOf a l i) (hc : c.length ≤ Sh.bigN) (hs : (Sh.ld l i).st.length ≤ Sh.bigN) : Pure Tryz.prog 11 [Sh.curV c, ldY rs l i] (.tuple [Sh.spV (Sh.blackR c (Sh.ld l i)).1, .int .i64 (Sh.blackR c (Sh.ld l i)).2]) := by
  rw [ldY_eq h]; exact Sh.black_R c _ hc hs
theorem hasY {a : Nat} {rs : List Bk.Rpt} {c : List Sh.Tnt} {s : List Sh.Shd} {l : List Sh.Lds} {i : Nat} (h : Bk.gt Bk.Rpt.d rs i = rOf a l i) (hc : c.length ≤ Sh.bigN) (hsl : s.length ≤ Sh.bigN) (hs : (Sh.ld l i).st.length ≤ Sh.bigN) : Pure Tryz.prog 12 [Sh.curV c, Sh.shdV s, ldY rs l i] (.tuple [Sh.intsV (Sh.hasR c s (Sh.ld l i)).1, .int .i64 (Sh.hasR c s (Sh.ld l i)).2]) := by
  rw [ldY_eq h]; exact Sh.has_R c s _ hc hsl hs
theorem topSheets_main (c : List Sh.Tnt) (l : List Sh.Lds) (s : List Sh.Shd) (a : Nat) (hc : c.length ≤ Sh.bigN) (hl : l.length ≤ Sh.bigN) (hs : ∀ x ∈ l, x.st.length ≤ Sh.bigN) (hsl : s.length ≤ Sh.bigN) (ha : a ≤ 65535) : Pure Tryz.prog 3 [Sh.curV c, Sh.ldsV l, Sh.shdV s, .int .u16 (a : Int)] (.bool true) := by
  refine Pure.start (N := 182) Tryz.func3 rfl rfl (Nat.le_of_ble_eq_true rfl) ?_
  refine AWp.seq ?_
  refine AWp.region ?_
  refine AList.c 8 rfl rfl rfl (OpJ.assign rfl rfl) ?_
  refine AList.nil ?_
  refine AWp.seq ?_
  refine AWp.seq ?_
  refine AWp.region ?_
  refine AList.c 28 rfl rfl rfl (OpJ.move rfl rfl) ?_
  refine AList.c 29 rfl rfl rfl (OpJ.lenSlice rfl rfl sl23 rfl) ?_
  refine AList.c 30 rfl rfl rfl (OpJ.gtr rfl rfl rfl) ?_
  refine AList.c 31 rfl rfl rfl (OpJ.move rfl rfl) ?_
  refine AList.g 32 31 rfl rfl rfl rfl rfl rfl rfl [(0, _)] (fun h => And.intro (.inl rfl) (trivial)) (fun h => (OpJ.move rfl rfl)) ?_
  refine AList.g 33 31 rfl rfl rfl rfl rfl rfl rfl [(32, _)] (fun h => And.intro (.inr ⟨_, rfl, h⟩) (trivial)) (fun h => (OpJ.lenSlice rfl rfl sl22 rfl)) ?_
  refine AList.g 34 31 rfl rfl rfl rfl rfl rfl rfl [(33, _)] (fun h => And.intro (.inr ⟨_, rfl, h⟩) (trivial)) (fun h => (OpJ.gtr rfl rfl rfl)) ?_
  refine AList.c 35 rfl rfl rfl (OpJ.or_ rfl rfl rfl ?_) ?_
  · first | (intro h; rw [h]; rfl) | (intro h; simp_all)
  refine AList.c 36 rfl rfl rfl (OpJ.move rfl rfl) ?_
  refine AList.g 37 36 rfl rfl rfl rfl rfl rfl rfl [(2, _)] (fun h => And.intro (.inl rfl) (trivial)) (fun h => (OpJ.move rfl rfl)) ?_
  refine AList.g 38 36 rfl rfl rfl rfl rfl rfl rfl [(37, _)] (fun h => And.intro (.inr ⟨_, rfl, h⟩) (trivial)) (fun h => (OpJ.lenSlice rfl rfl sl24 rfl)) ?_
  refine AList.g 39 36 rfl rfl rfl rfl rfl rfl rfl [(38, _)] (fun h => And.intro (.inr ⟨_, rfl, h⟩) (trivial)) (fun h => (OpJ.gtr rfl rfl rfl)) ?_
  refine AList.c 40 rfl rfl rfl (OpJ.or_ rfl rfl rfl ?_) ?_
  · first | (intro h; rw [h]; rfl) | (intro h; simp_all)
  refine AList.c 41 rfl rfl rfl (OpJ.move rfl rfl) ?_
  refine AList.g 42 41 rfl rfl rfl rfl rfl rfl rfl [(1, _)] (fun h => And.intro (.inl rfl) (trivial)) (fun h => (OpJ.move rfl rfl)) ?_
  refine AList.g 43 41 rfl rfl rfl rfl rfl rfl rfl [(42, _)] (fun h => And.intro (.inr ⟨_, rfl, h⟩) (trivial)) (fun h => (OpJ.callP (Sh.rall_ok l hl hs) rfl rfl rfl rfl rf5)) ?_
  refine AList.g 44 41 rfl rfl rfl rfl rfl rfl rfl [(43, _)] (fun h => And.intro (.inr ⟨_, rfl, h⟩) (trivial)) (fun h => (OpJ.not_ rfl rfl)) ?_
  refine AList.c 45 rfl rfl rfl (OpJ.or_ rfl rfl rfl ?_) ?_
  · first | (intro h; rw [h]; rfl) | (intro h; simp_all)
  refine AList.nil ?_
  refine AWp.cond _ rfl (fun hc0 => ?_) (fun hc0 => ?_)
  · skip
    refine AWp.seq ?_
    refine AWp.region ?_
    refine AList.c 46 rfl rfl rfl (OpJ.callP (awake14_ok) rfl rfl rfl rfl rf6) ?_
    refine AList.c 8 rfl rfl rfl (OpJ.assign rfl rfl) ?_
    refine AList.nil ?_
    refine AWp.ret ?_
    exact Fin.one rfl (rfl)
  · skip
    simp only [Bool.or_eq_false_iff, decide_eq_false_iff_not, Bool.not_eq_false'] at hc0
    obtain ⟨⟨⟨h10, h14⟩, hs14⟩, hv0⟩ := hc0
    have hv := List.all_eq_true.1 hv0
    have h10 : l.length ≤ 10 := by omega
    refine AWp.skip ?_
    refine AWp.seq ?_
    refine AWp.region ?_
    refine AList.c 9 rfl rfl rfl (OpJ.assign rfl rfl) ?_
    refine AList.nil ?_
    refine AWp.seq ?_
    refine AWp.region ?_
    refine AList.c 10 rfl rfl rfl (OpJ.assign rfl rfl) ?_
    refine AList.nil ?_
    refine AWp.seq ?_
    refine AWp.seq ?_
    refine AWp.region ?_
    refine AList.c 47 rfl rfl rfl (OpJ.move rfl rfl) ?_
    refine AList.c 48 rfl rfl rfl (OpJ.lenSlice rfl rfl sl23 rfl) ?_
    refine AList.c 49 rfl rfl rfl (OpJ.move rfl rfl) ?_
    refine AList.nil ?_
    refine AWp.block ?_
    refine AWp.loopHL [0, 1, 2, 3, 8, 13, 14, 15, 16, 17, 18, 19, 20, 21, 22, 23, 24, 25, 26, 27, 47, 48, 76, 77, 78, 79, 80, 81, 82, 83, 84, 85, 86, 87, 88, 89, 90, 91, 92, 93, 94, 95, 96, 97, 98, 99, 100, 101, 102, 103, 104, 105, 106, 107, 108, 109, 110, 111, 112, 113, 114, 115, 116, 117, 118, 119, 120, 121, 122, 123, 124, 125, 126, 127, 128, 129, 130, 131, 132, 133, 134, 135, 136, 137, 138, 139, 140, 141, 142, 143, 144, 145, 146, 147, 148, 149, 150, 151, 152, 153, 154, 155, 156, 157, 158, 159, 160, 161, 162, 163, 164, 165, 166, 167, 168, 169, 170, 171, 172, 173, 174, 175, 176, 177, 178, 179, 180, 181] (fun g => [(49, .p (.int .i64 ((g : Nat) : Int))), (9, accV 0 g), (10, .p (.int .i64 ((lnN l g : Nat) : Int)))]) (fun g => [accB (((rsOf a l g).flatMap Bk.Rpt.cells).map .p) 35 g]) (fun g => g ≤ l.length) (fun g => l.length - g) 0 (Nat.zero_le _) (To.pad.trans (To.sub (Sub.chk (Sub.cons rfl (Sub.cons rfl (Sub.cons rfl Sub.nil)))))) (fun i hi => ?_)
    refine AWp.seq ?_
    refine AWp.region ?_
    refine AList.c 50 rfl rfl rfl (OpJ.lss rfl rfl rfl) ?_
    refine AList.nil ?_
    refine AWp.seq ?_
    refine AWp.cond _ rfl (fun hc1 => ?_) (fun hc1 => ?_)
    · skip
      have hk0 : i < l.length := by have h := of_decide_eq_true hc1; omega
      have hn6 := ((Sh.ldB_iff _).1 (hv _ (Sh.ld_mem hk0))).n
      have hln := lnN_le l hv i (by omega)
      refine AWp.skip ?_
      refine AWp.seq ?_
      refine AWp.block ?_
      refine AWp.seq ?_
      refine AWp.region ?_
      refine AList.c 51 rfl rfl rfl (OpJ.move rfl rfl) ?_
      refine AList.c 52 rfl rfl rfl (OpJ.indexG (g := Sh.ld l) (fun _ h => Sh.ld_get h) rfl rfl rfl sl23 el23 rfl (fun _ => rfl) (by decide) hk0) ?_
      refine AList.c 53 rfl rfl rfl (OpJ.load (v := .p (Sh.ldV (Sh.ld l i))) rfl rfl ty33 rfl) ?_
      refine AList.c 12 rfl rfl rfl (OpJ.allocOwn rfl zr33 rfl) ?_
      refine AList.c 11 rfl rfl rfl (OpJ.assign rfl rfl) ?_
      refine AList.c0 rfl rfl (OpJ.store (H' := [accB (((rsOf a l i).flatMap Bk.Rpt.cells).map .p) 35 i, .cells ((Sh.ld l i).cells.map .p) 33]) rfl rfl rfl rfl rfl ty33 rfl rfl) ?_
      refine AList.nil ?_
      refine AWp.seq ?_
      refine AWp.region ?_
      refine AList.c 54 rfl rfl rfl (OpJ.move rfl rfl) ?_
      refine AList.c 55 rfl rfl rfl (OpJ.move rfl rfl) ?_
      refine AList.c 56 rfl rfl rfl (OpJ.convInt rfl rfl (by rw [un25]; rfl) un3 (i64ok ?_)) ?_
      · omega
      refine AList.c 57 rfl rfl rfl (OpJ.move rfl rfl) ?_
      refine AList.c 58 rfl rfl rfl (OpJ.mul rfl rfl rfl (i64ok ?_)) ?_
      · omega
      refine AList.c 59 rfl rfl rfl (OpJ.add rfl rfl rfl (i64ok ?_)) ?_
      · omega
      refine AList.c 60 rfl rfl rfl (OpJ.fieldAddr rfl rfl fd33_3 rfl) ?_
      refine AList.c 61 rfl rfl rfl (OpJ.load (v := .p (Sh.stV (Sh.ld l i).st)) rfl rfl ty31 rfl) ?_
      refine AList.c 62 rfl rfl rfl (OpJ.fieldAddr rfl rfl fd33_4 rfl) ?_
      refine AList.c 63 rfl rfl rfl (OpJ.load (v := .p (.agg [.int .i64 (Sh.ld l i).slo, .int .i64 (Sh.ld l i).shi])) rfl rfl ty30 rfl) ?_
      refine AList.c 64 rfl rfl rfl (OpJ.fieldAddr rfl rfl fd33_5 rfl) ?_
      refine AList.c 65 rfl rfl rfl (OpJ.load (v := .p (.agg [.int .i64 (Sh.ld l i).wlo, .int .i64 (Sh.ld l i).whi])) rfl rfl ty30 rfl) ?_
      refine AList.c 66 rfl rfl rfl (OpJ.buildR (v := .p (.agg [.int .i64 ((a : Int) + 3 * (i : Int)), Sh.stV (Sh.ld l i).st, .int .i64 (Sh.ld l i).slo, .int .i64 (Sh.ld l i).shi, .int .i64 (Sh.ld l i).wlo, .int .i64 (Sh.ld l i).whi])) rfl bd35 rfl rfl rfl) ?_
      refine AList.c 67 rfl rfl rfl (OpJ.buildImm rfl slz28 (by decide) rfl rfl rfl) ?_
      refine AList.c 68 rfl rfl rfl (OpJ.appendAcc rfl rfl rfl slz28 sl28 rfl ?_ rfl (by decide) rfl by35 (by decide) ?_) ?_
      · rw [List.length_map, AF.flat_len (c := 6) (fun _ => rfl), rsOf_len]; rfl
      · show (2 * (i + 1) + 192) * 64 ≤ 281474976710656; omega
      refine AList.c 9 rfl rfl rfl (OpJ.assign rfl rfl) ?_
      refine AList.nil ?_
      refine AWp.region ?_
      refine AList.c 69 rfl rfl rfl (OpJ.move rfl rfl) ?_
      refine AList.c 70 rfl rfl rfl (OpJ.fieldAddr rfl rfl fd33_3 rfl) ?_
      refine AList.c 71 rfl rfl rfl (OpJ.load (v := .p (Sh.stV (Sh.ld l i).st)) rfl rfl ty31 rfl) ?_
      refine AList.c 72 rfl rfl rfl (OpJ.lenSlice rfl rfl sl31 rfl) ?_
      refine AList.c 73 rfl rfl rfl (OpJ.add (m := ((3 + (Sh.ld l i).st.length : Nat) : Int)) rfl rfl rfl ((i64ok ?_).trans ?_)) ?_
      · omega
      · omega
      refine AList.c 74 rfl rfl rfl (OpJ.add (m := ((lnN l i + (3 + (Sh.ld l i).st.length) : Nat) : Int)) rfl rfl rfl ((i64ok ?_).trans ?_)) ?_
      · omega
      · omega
      refine AList.c 10 rfl rfl rfl (OpJ.assign rfl rfl) ?_
      refine AList.nil ?_
      refine AWp.region ?_
      refine AList.c 75 rfl rfl rfl (OpJ.add rfl rfl rfl (i64ok ?_)) ?_
      · omega
      refine AList.c 49 rfl rfl rfl (OpJ.move rfl rfl) ?_
      refine AList.nil ?_
      refine ⟨i + 1, ?_, ?_, ?_⟩
      · exact hk0
      · omega
      rw [rsOf_cells, rOf_cells]
      refine To.done [2] rfl (by repeat (first | exact Sub.nil | refine Sub.cons rfl ?_)) ?_
      show [Blk.row (renL _ (_ ++ _)) _] = [Blk.row _ _]
      rw [renL_app, renL_pure, List.map_append]
      rfl
    · skip
      have hi2 : i = l.length := by have h := of_decide_eq_false hc1; omega
      subst hi2
      refine AWp.to (To.accD 9 0 l.length (xs := (rsOf a l l.length).flatMap Bk.Rpt.cells) rfl rfl (fun h => by rw [h]; rfl)) ?_
      have hw := rsOf_wr ha h10 hv
      have hcnt := count_all ha h10 hv
      have hat := fun (j : Nat) (hj : j < l.length) => rsOf_at a l hj
      have hlen := rsOf_len a l l.length
      have hn6 := rsOf_n (a := a) hv
      generalize rsOf a l l.length = rs at hw hcnt hat hlen hn6 ⊢
      obtain ⟨_, _, _, hT, hrd⟩ := Bk.wrR_ok (l := rs) (by rw [hw])
      refine AWp.norm [] [(0, _), (1, _), (2, _), (9, _), (10, _)] [] rfl (by repeat (first | exact Sub.nil | refine Sub.cons rfl ?_)) rfl ?_
      refine AWp.exit ?_
      refine AWp.seq ?_
      refine AWp.region ?_
      refine AList.c 77 rfl rfl rfl (OpJ.move rfl rfl) ?_
      refine AList.c 78 rfl rfl rfl (OpJ.callP (wrs_ok hlen h10 hn6 hw) rfl rfl rfl rfl rf7) ?_
      refine AList.c 76 rfl rfl rfl (OpJ.move rfl rfl) ?_
      refine AList.c 79 rfl rfl rfl (OpJ.extract rfl rfl rfl) ?_
      refine AList.c 80 rfl rfl rfl (OpJ.extract rfl rfl rfl) ?_
      refine AList.c 13 rfl rfl rfl (OpJ.assign rfl rfl) ?_
      refine AList.c 14 rfl rfl rfl (OpJ.assign rfl rfl) ?_
      refine AList.nil ?_
      refine AWp.seq ?_
      refine AWp.region ?_
      refine AList.c 82 rfl rfl rfl (OpJ.move rfl rfl) ?_
      refine AList.c 83 rfl rfl rfl (OpJ.callP (rrs_ok hrd) rfl rfl rfl rfl rf8) ?_
      refine AList.c 81 rfl rfl rfl (OpJ.move rfl rfl) ?_
      refine AList.c 84 rfl rfl rfl (OpJ.extract rfl rfl rfl) ?_
      refine AList.c 85 rfl rfl rfl (OpJ.extract rfl rfl rfl) ?_
      refine AList.c 15 rfl rfl rfl (OpJ.assign rfl rfl) ?_
      refine AList.c 16 rfl rfl rfl (OpJ.assign rfl rfl) ?_
      refine AList.nil ?_
      refine AWp.seq ?_
      refine AWp.seq ?_
      refine AWp.region ?_
      refine AList.c 86 rfl rfl rfl (OpJ.move rfl rfl) ?_
      refine AList.c 87 rfl rfl rfl (OpJ.neq rfl rfl rfl) ?_
      refine AList.c 88 rfl rfl rfl (OpJ.move rfl rfl) ?_
      refine AList.g 89 88 rfl rfl rfl rfl rfl rfl rfl [(16, _)] (fun h => And.intro (.inl rfl) (trivial)) (fun h => (OpJ.move rfl rfl)) ?_
      refine AList.g 90 88 rfl rfl rfl rfl rfl rfl rfl [(89, _)] (fun h => And.intro (.inr ⟨_, rfl, h⟩) (trivial)) (fun h => (OpJ.neq rfl rfl rfl)) ?_
      refine AList.c 91 rfl rfl rfl (OpJ.or_ rfl rfl rfl ?_) ?_
      · first | (intro h; rw [h]; rfl) | (intro h; simp_all)
      refine AList.c 92 rfl rfl rfl (OpJ.move rfl rfl) ?_
      refine AList.g 93 92 rfl rfl rfl rfl rfl rfl rfl [(13, _)] (fun h => And.intro (.inl rfl) (trivial)) (fun h => (OpJ.move rfl rfl)) ?_
      refine AList.g 94 92 rfl rfl rfl rfl rfl rfl rfl [(93, _)] (fun h => And.intro (.inr ⟨_, rfl, h⟩) (trivial)) (fun h => (OpJ.callP (count_ok (Bk.rptsT rs)) rfl rfl rfl rfl rf9)) ?_
      refine AList.g 95 92 rfl rfl rfl rfl rfl rfl rfl [(10, _)] (fun h => And.intro (.inl rfl) (trivial)) (fun h => (OpJ.move rfl rfl)) ?_
      refine AList.g 96 92 rfl rfl rfl rfl rfl rfl rfl [(94, _), (95, _)] (fun h => And.intro (.inr ⟨_, rfl, h⟩) (And.intro (.inr ⟨_, rfl, h⟩) (trivial))) (fun h => (OpJ.neq rfl rfl rfl)) ?_
      refine AList.c 97 rfl rfl rfl (OpJ.or_ rfl rfl rfl ?_) ?_
      · first | (intro h; rw [h]; rfl) | (intro h; simp_all)
      refine AList.c 98 rfl rfl rfl (OpJ.move rfl rfl) ?_
      refine AList.g 99 98 rfl rfl rfl rfl rfl rfl rfl [(15, _)] (fun h => And.intro (.inl rfl) (trivial)) (fun h => (OpJ.move rfl rfl)) ?_
      refine AList.g 100 98 rfl rfl rfl rfl rfl rfl rfl [(9, _)] (fun h => And.intro (.inl rfl) (trivial)) (fun h => (OpJ.move rfl rfl)) ?_
      refine AList.g 101 98 rfl rfl rfl rfl rfl rfl rfl [(99, _), (100, _)] (fun h => And.intro (.inr ⟨_, rfl, h⟩) (And.intro (.inr ⟨_, rfl, h⟩) (trivial))) (fun h => (OpJ.callP (srs_ok hlen h10 hn6) rfl rfl rfl rfl rf10)) ?_
      refine AList.g 102 98 rfl rfl rfl rfl rfl rfl rfl [(101, _)] (fun h => And.intro (.inr ⟨_, rfl, h⟩) (trivial)) (fun h => (OpJ.not_ rfl rfl)) ?_
      refine AList.c 103 rfl rfl rfl (OpJ.or_ rfl rfl rfl ?_) ?_
      · first | (intro h; rw [h]; rfl) | (intro h; simp_all)
      refine AList.nil ?_
      refine AWp.cond _ rfl (fun hc2 => ?_) (fun hc2 => ?_)
      · skip
        exfalso
        rw [hcnt] at hc2
        simp at hc2
      · skip
        refine AWp.skip ?_
        refine AWp.seq ?_
        refine AWp.seq ?_
        refine AWp.region ?_
        refine AList.c 104 rfl rfl rfl (OpJ.move rfl rfl) ?_
        refine AList.c 105 rfl rfl rfl (OpJ.lenSlice rfl rfl sl23 rfl) ?_
        refine AList.c 106 rfl rfl rfl (OpJ.move rfl rfl) ?_
        refine AList.nil ?_
        refine AWp.block ?_
        refine AWp.loopHL [0, 2, 15, 104, 105, 181] (fun g => [(106, .p (.int .i64 ((g : Nat) : Int)))]) (fun g => []) (fun g => g ≤ l.length) (fun g => l.length - g) 0 (Nat.zero_le _) (To.sub (Sub.chk (Sub.cons rfl (Sub.nil)))) (fun i hi => ?_)
        refine AWp.seq ?_
        refine AWp.region ?_
        refine AList.c 107 rfl rfl rfl (OpJ.lss rfl rfl rfl) ?_
        refine AList.nil ?_
        refine AWp.seq ?_
        refine AWp.cond _ rfl (fun hc3 => ?_) (fun hc3 => ?_)
        · skip
          have hk0 : i < l.length := by have h := of_decide_eq_true hc3; omega
          have hst := hs _ (Sh.ld_mem hk0)
          have hai := hat i hk0
          refine AWp.skip ?_
          refine AWp.seq ?_
          refine AWp.block ?_
          refine AWp.seq ?_
          refine AWp.region ?_
          refine AList.c 108 rfl rfl rfl (OpJ.move rfl rfl) ?_
          refine AList.c 109 rfl rfl rfl (OpJ.indexG (g := Sh.ld l) (fun _ h => Sh.ld_get h) rfl rfl rfl sl23 el23 rfl (fun _ => rfl) (by decide) hk0) ?_
          refine AList.c 110 rfl rfl rfl (OpJ.load (v := .p (Sh.ldV (Sh.ld l i))) rfl rfl ty33 rfl) ?_
          refine AList.c 18 rfl rfl rfl (OpJ.allocOwn rfl zr33 rfl) ?_
          refine AList.c 17 rfl rfl rfl (OpJ.assign rfl rfl) ?_
          refine AList.c0 rfl rfl (OpJ.store (H' := [.cells ((Sh.ld l i).cells.map .p) 33]) rfl rfl rfl rfl rfl ty33 rfl rfl) ?_
          refine AList.nil ?_
          refine AWp.seq ?_
          refine AWp.regionDrawC 26 mixed (by kernel_rfl) (by decide) ?_
          refine AQuietC.cons 111 rfl rfl rfl (OpJ.fieldAddr rfl rfl fd33_0 rfl) (fun _ => (OpJ.fieldAddr rfl rfl fd33_0 rfl)) ?_
          refine AQuietC.cons 112 rfl rfl rfl (OpJ.load (v := .p (.agg [.int .i64 (Sh.ld l i).glo, .int .i64 (Sh.ld l i).ghi])) rfl rfl ty30 rfl) (fun _ => (OpJ.load (v := .p (.agg [.int .i64 (Sh.ld l i).glo, .int .i64 (Sh.ld l i).ghi])) rfl rfl ty30 rfl)) ?_
          refine AQuietC.cons 113 rfl rfl rfl (OpJ.fieldAddr rfl rfl fd33_1 rfl) (fun _ => (OpJ.fieldAddr rfl rfl fd33_1 rfl)) ?_
          refine AQuietC.cons 114 rfl rfl rfl (OpJ.load (v := .p (.agg [.int .i64 (Sh.ld l i).clo, .int .i64 (Sh.ld l i).chi])) rfl rfl ty30 rfl) (fun _ => (OpJ.load (v := .p (.agg [.int .i64 (Sh.ld l i).clo, .int .i64 (Sh.ld l i).chi])) rfl rfl ty30 rfl)) ?_
          refine AQuietC.cons 115 rfl rfl rfl (OpJ.fieldAddr rfl rfl fd33_2 rfl) (fun _ => (OpJ.fieldAddr rfl rfl fd33_2 rfl)) ?_
          refine AQuietC.cons 116 rfl rfl rfl (OpJ.load (v := .p (.int .i64 (Sh.ld l i).tol)) rfl rfl ty3 rfl) (fun _ => (OpJ.load (v := .p (.int .i64 (Sh.ld l i).tol)) rfl rfl ty3 rfl)) ?_
          refine AQuietC.cons 117 rfl rfl rfl (OpJ.fieldAddr rfl rfl fd33_6 rfl) (fun _ => (OpJ.fieldAddr rfl rfl fd33_6 rfl)) ?_
          refine AQuietC.cons 118 rfl rfl rfl (OpJ.load (v := .p (.int .i64 (Sh.ld l i).many)) rfl rfl ty3 rfl) (fun _ => (OpJ.load (v := .p (.int .i64 (Sh.ld l i).many)) rfl rfl ty3 rfl)) ?_
          refine AQuietC.cons 119 rfl rfl rfl (OpJ.move rfl rfl) (fun _ => (OpJ.move rfl rfl)) ?_
          refine AQuietC.cons 120 rfl rfl rfl (OpJ.move rfl rfl) (fun _ => (OpJ.move rfl rfl)) ?_
          refine AQuietC.cons 121 rfl rfl rfl (OpJ.indexG (g := Bk.gt Bk.Rpt.d rs) (Bk.gt_get _) rfl rfl rfl sl28 el28 rfl (fun _ => rfl) (by decide) (by rw [hlen]; exact hk0)) (fun _ => (OpJ.indexG (g := Bk.gt Bk.Rpt.d rs) (Bk.gt_get _) rfl rfl rfl sl28 el28 rfl (fun _ => rfl) (by decide) (by rw [hlen]; exact hk0))) ?_
          refine AQuietC.cons 122 rfl rfl rfl (OpJ.fieldAddr rfl rfl fd35_1 rfl) (fun _ => (OpJ.fieldAddr rfl rfl fd35_1 rfl)) ?_
          refine AQuietC.cons 123 rfl rfl rfl (OpJ.load (v := .p (Bk.stksV (Bk.gt Bk.Rpt.d rs i).strokes)) rfl rfl ty31 rfl) (fun _ => (OpJ.load (v := .p (Bk.stksV (Bk.gt Bk.Rpt.d rs i).strokes)) rfl rfl ty31 rfl)) ?_
          refine AQuietC.cons 124 rfl rfl rfl (OpJ.move rfl rfl) (fun _ => (OpJ.move rfl rfl)) ?_
          refine AQuietC.cons 125 rfl rfl rfl (OpJ.move rfl rfl) (fun _ => (OpJ.move rfl rfl)) ?_
          refine AQuietC.cons 126 rfl rfl rfl (OpJ.indexG (g := Bk.gt Bk.Rpt.d rs) (Bk.gt_get _) rfl rfl rfl sl28 el28 rfl (fun _ => rfl) (by decide) (by rw [hlen]; exact hk0)) (fun _ => (OpJ.indexG (g := Bk.gt Bk.Rpt.d rs) (Bk.gt_get _) rfl rfl rfl sl28 el28 rfl (fun _ => rfl) (by decide) (by rw [hlen]; exact hk0))) ?_
          refine AQuietC.cons 127 rfl rfl rfl (OpJ.fieldAddr rfl rfl fd35_2 rfl) (fun _ => (OpJ.fieldAddr rfl rfl fd35_2 rfl)) ?_
          refine AQuietC.cons 128 rfl rfl rfl (OpJ.load (v := .p (.agg [.int .i64 (Bk.gt Bk.Rpt.d rs i).strength.lo, .int .i64 (Bk.gt Bk.Rpt.d rs i).strength.hi])) rfl rfl ty30 rfl) (fun _ => (OpJ.load (v := .p (.agg [.int .i64 (Bk.gt Bk.Rpt.d rs i).strength.lo, .int .i64 (Bk.gt Bk.Rpt.d rs i).strength.hi])) rfl rfl ty30 rfl)) ?_
          refine AQuietC.cons 129 rfl rfl rfl (OpJ.move rfl rfl) (fun _ => (OpJ.move rfl rfl)) ?_
          refine AQuietC.cons 130 rfl rfl rfl (OpJ.move rfl rfl) (fun _ => (OpJ.move rfl rfl)) ?_
          refine AQuietC.cons 131 rfl rfl rfl (OpJ.indexG (g := Bk.gt Bk.Rpt.d rs) (Bk.gt_get _) rfl rfl rfl sl28 el28 rfl (fun _ => rfl) (by decide) (by rw [hlen]; exact hk0)) (fun _ => (OpJ.indexG (g := Bk.gt Bk.Rpt.d rs) (Bk.gt_get _) rfl rfl rfl sl28 el28 rfl (fun _ => rfl) (by decide) (by rw [hlen]; exact hk0))) ?_
          refine AQuietC.cons 132 rfl rfl rfl (OpJ.fieldAddr rfl rfl fd35_3 rfl) (fun _ => (OpJ.fieldAddr rfl rfl fd35_3 rfl)) ?_
          refine AQuietC.cons 133 rfl rfl rfl (OpJ.load (v := .p (.agg [.int .i64 (Bk.gt Bk.Rpt.d rs i).wear.lo, .int .i64 (Bk.gt Bk.Rpt.d rs i).wear.hi])) rfl rfl ty30 rfl) (fun _ => (OpJ.load (v := .p (.agg [.int .i64 (Bk.gt Bk.Rpt.d rs i).wear.lo, .int .i64 (Bk.gt Bk.Rpt.d rs i).wear.hi])) rfl rfl ty30 rfl)) ?_
          refine AQuietC.cons 134 rfl rfl rfl (OpJ.buildR (v := .p (ldY rs l i)) rfl bd33 rfl rfl rfl) (fun _ => (OpJ.buildR (v := .p (ldY rs l i)) rfl bd33 rfl rfl rfl)) ?_
          refine AQuietC.lay 19 rfl rfl rfl (OpJ.allocOwn rfl zr33 rfl) ?_
          refine AQuietC.put rfl rfl (by decide) (OpJ.store rfl rfl rfl rfl rfl ty33 rfl rfl) rfl ?_
          refine AQuietC.nil ?_
          refine AList.nil ?_
          refine AWp.seq ?_
          refine AWp.region ?_
          refine AList.c 136 rfl rfl rfl (OpJ.move rfl rfl) ?_
          refine AList.c 137 rfl rfl rfl (OpJ.load (v := .p (Sh.ldV (Sh.ld l i))) rfl rfl ty33 rfl) ?_
          refine AList.c 138 rfl rfl rfl (OpJ.callP (Sh.black_R c (Sh.ld l i) hc hst) rfl rfl rfl rfl rf11) ?_
          refine AList.c 135 rfl rfl rfl (OpJ.move rfl rfl) ?_
          refine AList.c 139 rfl rfl rfl (OpJ.extract rfl rfl rfl) ?_
          refine AList.c 140 rfl rfl rfl (OpJ.extract rfl rfl rfl) ?_
          refine AList.c 20 rfl rfl rfl (OpJ.allocOwn rfl zr30 rfl) ?_
          refine AList.c0 rfl rfl (OpJ.store rfl rfl rfl rfl rfl ty30 rfl rfl) ?_
          refine AList.c 21 rfl rfl rfl (OpJ.assign rfl rfl) ?_
          refine AList.nil ?_
          refine AWp.seq ?_
          refine AWp.region ?_
          refine AList.c 142 rfl rfl rfl (OpJ.move rfl rfl) ?_
          refine AList.c 143 rfl rfl rfl (OpJ.load (v := .p (ldY rs l i)) rfl rfl ty33 rfl) ?_
          refine AList.c 144 rfl rfl rfl (OpJ.callP (blackY hai hc hst) rfl rfl rfl rfl rf11) ?_
          refine AList.c 141 rfl rfl rfl (OpJ.move rfl rfl) ?_
          refine AList.c 145 rfl rfl rfl (OpJ.extract rfl rfl rfl) ?_
          refine AList.c 146 rfl rfl rfl (OpJ.extract rfl rfl rfl) ?_
          refine AList.c 22 rfl rfl rfl (OpJ.allocOwn rfl zr30 rfl) ?_
          refine AList.c0 rfl rfl (OpJ.store rfl rfl rfl rfl rfl ty30 rfl rfl) ?_
          refine AList.c 23 rfl rfl rfl (OpJ.assign rfl rfl) ?_
          refine AList.nil ?_
          refine AWp.seq ?_
          refine AWp.region ?_
          refine AList.c 148 rfl rfl rfl (OpJ.move rfl rfl) ?_
          refine AList.c 149 rfl rfl rfl (OpJ.move rfl rfl) ?_
          refine AList.c 150 rfl rfl rfl (OpJ.load (v := .p (Sh.ldV (Sh.ld l i))) rfl rfl ty33 rfl) ?_
          refine AList.c 151 rfl rfl rfl (OpJ.callP (Sh.has_R c s (Sh.ld l i) hc hsl hst) rfl rfl rfl rfl rf12) ?_
          refine AList.c 147 rfl rfl rfl (OpJ.move rfl rfl) ?_
          refine AList.c 152 rfl rfl rfl (OpJ.extract rfl rfl rfl) ?_
          refine AList.c 153 rfl rfl rfl (OpJ.extract rfl rfl rfl) ?_
          refine AList.c 24 rfl rfl rfl (OpJ.assign rfl rfl) ?_
          refine AList.c 25 rfl rfl rfl (OpJ.assign rfl rfl) ?_
          refine AList.nil ?_
          refine AWp.seq ?_
          refine AWp.region ?_
          refine AList.c 155 rfl rfl rfl (OpJ.move rfl rfl) ?_
          refine AList.c 156 rfl rfl rfl (OpJ.move rfl rfl) ?_
          refine AList.c 157 rfl rfl rfl (OpJ.load (v := .p (ldY rs l i)) rfl rfl ty33 rfl) ?_
          refine AList.c 158 rfl rfl rfl (OpJ.callP (hasY hai hc hsl hst) rfl rfl rfl rfl rf12) ?_
          refine AList.c 154 rfl rfl rfl (OpJ.move rfl rfl) ?_
          refine AList.c 159 rfl rfl rfl (OpJ.extract rfl rfl rfl) ?_
          refine AList.c 160 rfl rfl rfl (OpJ.extract rfl rfl rfl) ?_
          refine AList.c 26 rfl rfl rfl (OpJ.assign rfl rfl) ?_
          refine AList.c 27 rfl rfl rfl (OpJ.assign rfl rfl) ?_
          refine AList.nil ?_
          refine AWp.seq ?_
          refine AWp.region ?_
          refine AList.c 161 rfl rfl rfl (OpJ.load (v := .p (Sh.spV (Sh.blackR c (Sh.ld l i)).1)) rfl rfl ty30 rfl) ?_
          refine AList.c 162 rfl rfl rfl (OpJ.load (v := .p (Sh.spV (Sh.blackR c (Sh.ld l i)).1)) rfl rfl ty30 rfl) ?_
          refine AList.c 163 rfl rfl rfl (OpJ.eqAgg (d := 8) rfl (.inr rfl) rfl rfl (by decide) eq30 ty30 rfl eg30 rfl) ?_
          refine AList.c 164 rfl rfl rfl (OpJ.move rfl rfl) ?_
          refine AList.g 165 164 rfl rfl rfl rfl rfl rfl rfl [(21, _)] (fun h => And.intro (.inl rfl) (trivial)) (fun h => (OpJ.move rfl rfl)) ?_
          refine AList.g 166 164 rfl rfl rfl rfl rfl rfl rfl [(23, _)] (fun h => And.intro (.inl rfl) (trivial)) (fun h => (OpJ.move rfl rfl)) ?_
          refine AList.g 167 164 rfl rfl rfl rfl rfl rfl rfl [(165, _), (166, _)] (fun h => And.intro (.inr ⟨_, rfl, h⟩) (And.intro (.inr ⟨_, rfl, h⟩) (trivial))) (fun h => (OpJ.neq rfl rfl rfl)) ?_
          refine AList.c 168 rfl rfl rfl (OpJ.or_ rfl rfl rfl ?_) ?_
          · first | (intro h; rw [h]; rfl) | (intro h; simp_all)
          refine AList.c 169 rfl rfl rfl (OpJ.move rfl rfl) ?_
          refine AList.g 170 169 rfl rfl rfl rfl rfl rfl rfl [(24, _)] (fun h => And.intro (.inl rfl) (trivial)) (fun h => (OpJ.move rfl rfl)) ?_
          refine AList.g 171 169 rfl rfl rfl rfl rfl rfl rfl [(26, _)] (fun h => And.intro (.inl rfl) (trivial)) (fun h => (OpJ.move rfl rfl)) ?_
          refine AList.g 172 169 rfl rfl rfl rfl rfl rfl rfl [(170, _), (171, _)] (fun h => And.intro (.inr ⟨_, rfl, h⟩) (And.intro (.inr ⟨_, rfl, h⟩) (trivial))) (fun h => (OpJ.callP (Sh.ints_ok (Sh.hasR c s (Sh.ld l i)).1 (Sh.hasR c s (Sh.ld l i)).1 (Nat.le_trans (Sh.hasR_len c s (Sh.ld l i)) hsl) (Nat.le_trans (Sh.hasR_len c s (Sh.ld l i)) hsl)) rfl rfl rfl rfl rf13)) ?_
          refine AList.g 173 169 rfl rfl rfl rfl rfl rfl rfl [(172, _)] (fun h => And.intro (.inr ⟨_, rfl, h⟩) (trivial)) (fun h => (OpJ.not_ rfl rfl)) ?_
          refine AList.c 174 rfl rfl rfl (OpJ.or_ rfl rfl rfl ?_) ?_
          · first | (intro h; rw [h]; rfl) | (intro h; simp_all)
          refine AList.c 175 rfl rfl rfl (OpJ.move rfl rfl) ?_
          refine AList.g 176 175 rfl rfl rfl rfl rfl rfl rfl [(25, _)] (fun h => And.intro (.inl rfl) (trivial)) (fun h => (OpJ.move rfl rfl)) ?_
          refine AList.g 177 175 rfl rfl rfl rfl rfl rfl rfl [(27, _)] (fun h => And.intro (.inl rfl) (trivial)) (fun h => (OpJ.move rfl rfl)) ?_
          refine AList.g 178 175 rfl rfl rfl rfl rfl rfl rfl [(176, _), (177, _)] (fun h => And.intro (.inr ⟨_, rfl, h⟩) (And.intro (.inr ⟨_, rfl, h⟩) (trivial))) (fun h => (OpJ.neq rfl rfl rfl)) ?_
          refine AList.c 179 rfl rfl rfl (OpJ.or_ rfl rfl rfl ?_) ?_
          · first | (intro h; rw [h]; rfl) | (intro h; simp_all)
          refine AList.nil ?_
          refine AWp.cond _ rfl (fun hc4 => ?_) (fun hc4 => ?_)
          · skip
            exfalso
            simp at hc4
          · skip
            refine AWp.skip ?_
            refine AWp.region ?_
            refine AList.c 180 rfl rfl rfl (OpJ.add rfl rfl rfl (i64ok ?_)) ?_
            · omega
            refine AList.c 106 rfl rfl rfl (OpJ.move rfl rfl) ?_
            refine AList.nil ?_
            refine ⟨i + 1, ?_, ?_, ?_⟩
            · exact hk0
            · omega
            exact To.done [] rfl (by repeat (first | exact Sub.nil | refine Sub.cons rfl ?_)) rfl
        · skip
          refine AWp.exit ?_
          refine AWp.seq ?_
          refine AWp.region ?_
          refine AList.c 181 rfl rfl rfl (OpJ.callP (awake14_ok) rfl rfl rfl rfl rf6) ?_
          refine AList.c 8 rfl rfl rfl (OpJ.assign rfl rfl) ?_
          refine AList.nil ?_
          refine AWp.ret ?_
          exact Fin.one rfl (rfl)
theorem topSheets_law {x0 x1 x2 x3 : List PV} (h0 : TyL [.sl [.leaf (.int .i64), .leaf (.int .i64)]] x0) (h1 : TyL [.sl [.leaf (.int .i64), .leaf (.int .i64), .leaf (.int .i64), .leaf (.int .i64), .leaf (.int .i64), .sl [.leaf (.int .i64), .leaf (.int .i64), .leaf (.int .i64), .leaf (.int .i64)], .leaf (.int .i64), .leaf (.int .i64), .leaf (.int .i64), .leaf (.int .i64), .leaf (.int .i64)]] x1) (h2 : TyL [.sl [.leaf (.int .i64), .leaf (.int .i64), .leaf (.int .i64), .leaf (.int .i64), .leaf (.int .i64), .leaf (.int .i64)]] x2) (h3 : TyL [.leaf (.int .u16)] x3) : Pure Tryz.prog 3 [argP false x0, argP false x1, argP false x2, argP false x3] (.bool true) := by
  obtain ⟨c, rfl, hc⟩ := Sh.cur_of h0
  obtain ⟨l, rfl, hl, hls⟩ := Sh.lds_of h1
  obtain ⟨s, rfl, hs⟩ := Sh.shds_of h2
  obtain ⟨a, rfl, ha⟩ := Bk.u16_of h3
  exact topSheets_main c l s a hc hl hls hs ha
end Go.Proofs.YtbnemnhmejmeeaaGreatDoor
end
