/-
  What the document fixes, across recall and book.
-/
import Derived.Test.YtbnemnhmejmeeaaGreatDoorRqA
import Derived.Test.YtbnemnhmejmeeaaGreatDoorNqD
import Derived.Test.YtbnemnhmejmeeaaGreatDoorTqP
section
set_option linter.unusedVariables false
set_option maxRecDepth 100000
set_option maxHeartbeats 4000000
set_option linter.unusedSimpArgs false
namespace Go.Proofs.YtbnemnhmejmeeaaGreatDoor
open Go.AF
open Go.Proofs
theorem awpP : Pure Tryz.prog 16 [.is [.int .i64 7, .is [.int .i64 0, .int .i64 1, .int .i64 2, .int .i64 3, .int .i64 5, .int .i64 8, .int .i64 8] 7] 1] (.tuple [.str (sB awT), .int .i64 0]) := by
  have h := Bk.writePacks_ok [⟨7, [0, 1, 2, 3, 5, 8, 8]⟩] (by decide) (by decide)
  rwa [aw_P] at h
theorem awpR : Pure Tryz.prog 7 [.is [.int .i64 15, .is [] 0, .int .i64 100, .int .i64 100, .int .i64 0, .int .i64 5] 1] (.tuple [.str (sB awS), .int .i64 0]) := by
  have h := Bk.writeReports_ok [⟨15, [], ⟨100, 100⟩, ⟨0, 5⟩⟩] (by decide) (by decide)
  rwa [aw_R] at h
theorem awpB : Pure Tryz.prog 22 [Rx.batV awB, .int .i64 2] (.tuple [.int .i64 ((7 : Nat) : Int), .int .i64 0]) := by
  have h := Rx.Back_ok awB 2 (by decide)
  rwa [aw_B.1, aw_B.2] at h
theorem awake14_ok  : Pure Tryz.prog 6 [] (.bool true) := by
  refine Pure.start (N := 52) Tryz.func6 rfl rfl (Nat.le_of_ble_eq_true rfl) ?_
  refine AWp.seq ?_
  refine AWp.region ?_
  refine AList.c 0 rfl rfl rfl (OpJ.assign rfl rfl) ?_
  refine AList.nil ?_
  refine AWp.seq ?_
  refine AWp.region ?_
  refine AList.c 8 rfl rfl rfl (OpJ.buildImm rfl slz45 (by decide) rfl rfl rfl) ?_
  refine AList.c 9 rfl rfl rfl (OpJ.build rfl bd57 rfl rfl) ?_
  refine AList.c 10 rfl rfl rfl (OpJ.buildImm rfl slz55 (by decide) rfl rfl rfl) ?_
  refine AList.c 11 rfl rfl rfl (OpJ.callP (awpP) rfl rfl rfl rfl rf16) ?_
  refine AList.c 7 rfl rfl rfl (OpJ.move rfl rfl) ?_
  refine AList.c 12 rfl rfl rfl (OpJ.extract rfl rfl rfl) ?_
  refine AList.c 13 rfl rfl rfl (OpJ.extract rfl rfl rfl) ?_
  refine AList.c 1 rfl rfl rfl (OpJ.assign rfl rfl) ?_
  refine AList.c 2 rfl rfl rfl (OpJ.assign rfl rfl) ?_
  refine AList.nil ?_
  refine AWp.seq ?_
  refine AWp.region ?_
  refine AList.c 15 rfl rfl rfl (OpJ.build rfl bd30 rfl rfl) ?_
  refine AList.c 16 rfl rfl rfl (OpJ.build rfl bd30 rfl rfl) ?_
  refine AList.c 17 rfl rfl rfl (OpJ.build rfl bd35 rfl rfl) ?_
  refine AList.to (To.wkS 17 rfl) ?_
  refine AList.c 18 rfl rfl rfl (OpJ.buildImm rfl slz28 (by decide) rfl rfl rfl) ?_
  refine AList.c 19 rfl rfl rfl (OpJ.callP (awpR) rfl rfl rfl rfl rf7) ?_
  refine AList.c 14 rfl rfl rfl (OpJ.move rfl rfl) ?_
  refine AList.c 20 rfl rfl rfl (OpJ.extract rfl rfl rfl) ?_
  refine AList.c 21 rfl rfl rfl (OpJ.extract rfl rfl rfl) ?_
  refine AList.c 3 rfl rfl rfl (OpJ.assign rfl rfl) ?_
  refine AList.c 4 rfl rfl rfl (OpJ.assign rfl rfl) ?_
  refine AList.nil ?_
  refine AWp.seq ?_
  refine AWp.region ?_
  refine AList.c 23 rfl rfl rfl (OpJ.build rfl bd70 rfl rfl) ?_
  refine AList.c 24 rfl rfl rfl (OpJ.build rfl bd70 rfl rfl) ?_
  refine AList.c 25 rfl rfl rfl (OpJ.build rfl bd70 rfl rfl) ?_
  refine AList.c 26 rfl rfl rfl (OpJ.buildImm rfl slz71 (by decide) rfl rfl rfl) ?_
  refine AList.c 27 rfl rfl rfl (OpJ.callP (awpB) rfl rfl rfl rfl rf22) ?_
  refine AList.c 22 rfl rfl rfl (OpJ.move rfl rfl) ?_
  refine AList.c 28 rfl rfl rfl (OpJ.extract rfl rfl rfl) ?_
  refine AList.c 29 rfl rfl rfl (OpJ.extract rfl rfl rfl) ?_
  refine AList.c 5 rfl rfl rfl (OpJ.assign rfl rfl) ?_
  refine AList.c 6 rfl rfl rfl (OpJ.assign rfl rfl) ?_
  refine AList.nil ?_
  refine AWp.seq ?_
  refine AWp.region ?_
  refine AList.c 30 rfl rfl rfl (OpJ.move rfl rfl) ?_
  refine AList.c 31 rfl rfl rfl (OpJ.strEq awT awT rfl rfl rfl) ?_
  refine AList.c 32 rfl rfl rfl (OpJ.move rfl rfl) ?_
  refine AList.g 33 32 rfl rfl rfl rfl rfl rfl rfl [(2, _)] (fun h => And.intro (.inl rfl) (trivial)) (fun h => (OpJ.move rfl rfl)) ?_
  refine AList.g 34 32 rfl rfl rfl rfl rfl rfl rfl [(33, _)] (fun h => And.intro (.inr ⟨_, rfl, h⟩) (trivial)) (fun h => (OpJ.eql rfl rfl rfl)) ?_
  refine AList.c 35 rfl rfl rfl (OpJ.and_ rfl rfl rfl ?_) ?_
  · first | (intro h; rw [h]; rfl) | (intro h; simp_all)
  refine AList.c 36 rfl rfl rfl (OpJ.move rfl rfl) ?_
  refine AList.g 37 36 rfl rfl rfl rfl rfl rfl rfl [(3, _)] (fun h => And.intro (.inl rfl) (trivial)) (fun h => (OpJ.move rfl rfl)) ?_
  refine AList.g 38 36 rfl rfl rfl rfl rfl rfl rfl [(37, _)] (fun h => And.intro (.inr ⟨_, rfl, h⟩) (trivial)) (fun h => (OpJ.strEq awS awS rfl rfl rfl)) ?_
  refine AList.c 39 rfl rfl rfl (OpJ.and_ rfl rfl rfl ?_) ?_
  · first | (intro h; rw [h]; rfl) | (intro h; simp_all)
  refine AList.c 40 rfl rfl rfl (OpJ.move rfl rfl) ?_
  refine AList.g 41 40 rfl rfl rfl rfl rfl rfl rfl [(4, _)] (fun h => And.intro (.inl rfl) (trivial)) (fun h => (OpJ.move rfl rfl)) ?_
  refine AList.g 42 40 rfl rfl rfl rfl rfl rfl rfl [(41, _)] (fun h => And.intro (.inr ⟨_, rfl, h⟩) (trivial)) (fun h => (OpJ.eql rfl rfl rfl)) ?_
  refine AList.c 43 rfl rfl rfl (OpJ.and_ rfl rfl rfl ?_) ?_
  · first | (intro h; rw [h]; rfl) | (intro h; simp_all)
  refine AList.c 44 rfl rfl rfl (OpJ.move rfl rfl) ?_
  refine AList.g 45 44 rfl rfl rfl rfl rfl rfl rfl [(5, _)] (fun h => And.intro (.inl rfl) (trivial)) (fun h => (OpJ.move rfl rfl)) ?_
  refine AList.g 46 44 rfl rfl rfl rfl rfl rfl rfl [(45, _)] (fun h => And.intro (.inr ⟨_, rfl, h⟩) (trivial)) (fun h => (OpJ.eql rfl rfl rfl)) ?_
  refine AList.c 47 rfl rfl rfl (OpJ.and_ rfl rfl rfl ?_) ?_
  · first | (intro h; rw [h]; rfl) | (intro h; simp_all)
  refine AList.c 48 rfl rfl rfl (OpJ.move rfl rfl) ?_
  refine AList.g 49 48 rfl rfl rfl rfl rfl rfl rfl [(6, _)] (fun h => And.intro (.inl rfl) (trivial)) (fun h => (OpJ.move rfl rfl)) ?_
  refine AList.g 50 48 rfl rfl rfl rfl rfl rfl rfl [(49, _)] (fun h => And.intro (.inr ⟨_, rfl, h⟩) (trivial)) (fun h => (OpJ.eql rfl rfl rfl)) ?_
  refine AList.c 51 rfl rfl rfl (OpJ.and_ rfl rfl rfl ?_) ?_
  · first | (intro h; rw [h]; rfl) | (intro h; simp_all)
  refine AList.c 0 rfl rfl rfl (OpJ.assign rfl rfl) ?_
  refine AList.nil ?_
  refine AWp.ret ?_
  refine Fin.oneE rfl rfl ?_
  simp
end Go.Proofs.YtbnemnhmejmeeaaGreatDoor
end
