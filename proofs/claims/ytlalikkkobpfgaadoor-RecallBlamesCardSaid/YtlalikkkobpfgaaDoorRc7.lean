/-
  The document's examples.
-/
import Derived.Test.YtlalikkkobpfgaaDoorRc6
set_option linter.unusedVariables false
set_option maxRecDepth 100000
set_option maxHeartbeats 4000000
set_option linter.unusedSimpArgs false
namespace Go.Proofs.YtlalikkkobpfgaaDoor
open Go.AF
def sampB : List Bat := [⟨0, 0⟩, ⟨0, 0⟩, ⟨0, 0⟩, ⟨3, 0⟩, ⟨5, 0⟩, ⟨0, 0⟩, ⟨40, 100⟩, ⟨48, 50⟩, ⟨8, 30⟩]
theorem aw1 : (fromN sampB (backN sampB) 6, fromE sampB 6) = (107, 0) := by kernel_rfl
theorem awp1 : Pure Tryd.prog 11 [batV sampB, .int .i64 6] (.tuple [.int .i64 ((107 : Nat) : Int), .int .i64 0]) := by
  have h := Back_ok sampB 6 (by decide)
  obtain ⟨e1, e2⟩ := Prod.mk.inj aw1
  rwa [e1, e2] at h
theorem aw2 : (fromN sampB (aheadN sampB) 0, fromE sampB 0) = (473, 0) := by kernel_rfl
theorem awp2 : Pure Tryd.prog 13 [batV sampB, .int .i64 0] (.tuple [.int .i64 ((473 : Nat) : Int), .int .i64 0]) := by
  have h := Ahead_ok sampB 0 (by decide)
  obtain ⟨e1, e2⟩ := Prod.mk.inj aw2
  rwa [e1, e2] at h
theorem aw3 : (blR sampB 64 128, blE sampB 64 128) = (74, 0) := by kernel_rfl
theorem awp3 : Pure Tryd.prog 17 [batV sampB, .int .i64 64, .int .i64 128] (.tuple [.int .i64 ((74 : Nat) : Int), .int .i64 0]) := by
  have h := Blame_ok sampB 64 128 (by decide)
  obtain ⟨e1, e2⟩ := Prod.mk.inj aw3
  rwa [e1, e2] at h
theorem aw4 : (recN sampB 64 0, recS sampB 64 0, blE sampB 64 0) = (448, (100, 180), 0) := by kernel_rfl
theorem awp4 : Pure Tryd.prog 19 [batV sampB, .int .i64 64, .int .i64 0] (.tuple [.int .i64 ((448 : Nat) : Int), .agg [.int .i64 100, .int .i64 180], .int .i64 0]) := by
  have h := Recall_ok sampB 64 0 (by decide)
  obtain ⟨e1, e3⟩ := Prod.mk.inj aw4
  obtain ⟨e2, e3⟩ := Prod.mk.inj e3
  rwa [e1, e2, e3] at h
theorem aw5 : (cmA sampB 320, cmL sampB 320, cmE sampB 320) = (11, 8, 0) := by kernel_rfl
theorem awp5 : Pure Tryd.prog 15 [batV sampB, .int .i64 320] (.tuple [.int .i64 ((11 : Nat) : Int), .int .i64 ((8 : Nat) : Int), .int .i64 0]) := by
  have h := Common_ok sampB 320 (by decide)
  obtain ⟨e1, e3⟩ := Prod.mk.inj aw5
  obtain ⟨e2, e3⟩ := Prod.mk.inj e3
  rwa [e1, e2, e3] at h
theorem aw6 : (blR sampB 64 64, blE sampB 64 64) = (0, 6) := by kernel_rfl
theorem awp6 : Pure Tryd.prog 17 [batV sampB, .int .i64 64, .int .i64 64] (.tuple [.int .i64 ((0 : Nat) : Int), .int .i64 6]) := by
  have h := Blame_ok sampB 64 64 (by decide)
  obtain ⟨e1, e2⟩ := Prod.mk.inj aw6
  rwa [e1, e2] at h
theorem sample_ok  : Pure Tryd.prog 24 [] (batV sampB) := by
  refine Pure.start (N := 11) Tryd.func24 rfl rfl (Nat.le_of_ble_eq_true rfl) ?_
  refine AWp.seq ?_
  refine AWp.region ?_
  refine AList.c 0 rfl rfl rfl (OpJ.assign rfl rfl) ?_
  refine AList.nil ?_
  refine AWp.seq ?_
  refine AWp.region ?_
  refine AList.c 1 rfl rfl rfl (OpJ.build rfl bd39 rfl rfl) ?_
  refine AList.c 2 rfl rfl rfl (OpJ.build rfl bd39 rfl rfl) ?_
  refine AList.c 3 rfl rfl rfl (OpJ.build rfl bd39 rfl rfl) ?_
  refine AList.c 4 rfl rfl rfl (OpJ.build rfl bd39 rfl rfl) ?_
  refine AList.c 5 rfl rfl rfl (OpJ.build rfl bd39 rfl rfl) ?_
  refine AList.c 6 rfl rfl rfl (OpJ.build rfl bd39 rfl rfl) ?_
  refine AList.c 7 rfl rfl rfl (OpJ.build rfl bd39 rfl rfl) ?_
  refine AList.c 8 rfl rfl rfl (OpJ.build rfl bd39 rfl rfl) ?_
  refine AList.c 9 rfl rfl rfl (OpJ.build rfl bd39 rfl rfl) ?_
  refine AList.c 10 rfl rfl rfl (OpJ.buildImm rfl slz22 (by decide) rfl rfl rfl) ?_
  refine AList.c 0 rfl rfl rfl (OpJ.assign rfl rfl) ?_
  refine AList.nil ?_
  refine AWp.ret ?_
  exact Fin.one rfl (rfl)
theorem awake_ok  : Pure Tryd.prog 10 [] (.bool true) := by
  refine Pure.start (N := 100) Tryd.func10 rfl rfl (Nat.le_of_ble_eq_true rfl) ?_
  refine AWp.seq ?_
  refine AWp.region ?_
  refine AList.c 0 rfl rfl rfl (OpJ.assign rfl rfl) ?_
  refine AList.nil ?_
  refine AWp.seq ?_
  refine AWp.region ?_
  refine AList.c 16 rfl rfl rfl (OpJ.callP (sample_ok) rfl rfl rfl rfl rf24) ?_
  refine AList.c 1 rfl rfl rfl (OpJ.assign rfl rfl) ?_
  refine AList.nil ?_
  refine AWp.seq ?_
  refine AWp.region ?_
  refine AList.c 18 rfl rfl rfl (OpJ.move rfl rfl) ?_
  refine AList.c 19 rfl rfl rfl (OpJ.callP (awp1) rfl rfl rfl rfl rf11) ?_
  refine AList.c 17 rfl rfl rfl (OpJ.move rfl rfl) ?_
  refine AList.c 20 rfl rfl rfl (OpJ.extract rfl rfl rfl) ?_
  refine AList.c 21 rfl rfl rfl (OpJ.extract rfl rfl rfl) ?_
  refine AList.c 2 rfl rfl rfl (OpJ.assign rfl rfl) ?_
  refine AList.c 3 rfl rfl rfl (OpJ.assign rfl rfl) ?_
  refine AList.nil ?_
  refine AWp.seq ?_
  refine AWp.region ?_
  refine AList.c 23 rfl rfl rfl (OpJ.move rfl rfl) ?_
  refine AList.c 24 rfl rfl rfl (OpJ.callP (awp2) rfl rfl rfl rfl rf13) ?_
  refine AList.c 22 rfl rfl rfl (OpJ.move rfl rfl) ?_
  refine AList.c 25 rfl rfl rfl (OpJ.extract rfl rfl rfl) ?_
  refine AList.c 26 rfl rfl rfl (OpJ.extract rfl rfl rfl) ?_
  refine AList.c 4 rfl rfl rfl (OpJ.assign rfl rfl) ?_
  refine AList.c 5 rfl rfl rfl (OpJ.assign rfl rfl) ?_
  refine AList.nil ?_
  refine AWp.seq ?_
  refine AWp.region ?_
  refine AList.c 28 rfl rfl rfl (OpJ.move rfl rfl) ?_
  refine AList.c 29 rfl rfl rfl (OpJ.callP (awp3) rfl rfl rfl rfl rf17) ?_
  refine AList.c 27 rfl rfl rfl (OpJ.move rfl rfl) ?_
  refine AList.c 30 rfl rfl rfl (OpJ.extract rfl rfl rfl) ?_
  refine AList.c 31 rfl rfl rfl (OpJ.extract rfl rfl rfl) ?_
  refine AList.c 6 rfl rfl rfl (OpJ.assign rfl rfl) ?_
  refine AList.c 7 rfl rfl rfl (OpJ.assign rfl rfl) ?_
  refine AList.nil ?_
  refine AWp.seq ?_
  refine AWp.region ?_
  refine AList.c 33 rfl rfl rfl (OpJ.move rfl rfl) ?_
  refine AList.c 34 rfl rfl rfl (OpJ.callP (awp4) rfl rfl rfl rfl rf19) ?_
  refine AList.c 32 rfl rfl rfl (OpJ.move rfl rfl) ?_
  refine AList.c 35 rfl rfl rfl (OpJ.extract rfl rfl rfl) ?_
  refine AList.c 36 rfl rfl rfl (OpJ.extract rfl rfl rfl) ?_
  refine AList.c 37 rfl rfl rfl (OpJ.extract rfl rfl rfl) ?_
  refine AList.c 9 rfl rfl rfl (OpJ.allocOwn rfl zr32 rfl) ?_
  refine AList.c 8 rfl rfl rfl (OpJ.assign rfl rfl) ?_
  refine AList.c0 rfl rfl (OpJ.store rfl rfl rfl rfl rfl ty32 rfl rfl) ?_
  refine AList.c 10 rfl rfl rfl (OpJ.assign rfl rfl) ?_
  refine AList.nil ?_
  refine AWp.seq ?_
  refine AWp.region ?_
  refine AList.c 39 rfl rfl rfl (OpJ.move rfl rfl) ?_
  refine AList.c 40 rfl rfl rfl (OpJ.callP (awp5) rfl rfl rfl rfl rf15) ?_
  refine AList.c 38 rfl rfl rfl (OpJ.move rfl rfl) ?_
  refine AList.c 41 rfl rfl rfl (OpJ.extract rfl rfl rfl) ?_
  refine AList.c 42 rfl rfl rfl (OpJ.extract rfl rfl rfl) ?_
  refine AList.c 43 rfl rfl rfl (OpJ.extract rfl rfl rfl) ?_
  refine AList.c 11 rfl rfl rfl (OpJ.assign rfl rfl) ?_
  refine AList.c 12 rfl rfl rfl (OpJ.assign rfl rfl) ?_
  refine AList.c 13 rfl rfl rfl (OpJ.assign rfl rfl) ?_
  refine AList.nil ?_
  refine AWp.seq ?_
  refine AWp.region ?_
  refine AList.c 45 rfl rfl rfl (OpJ.move rfl rfl) ?_
  refine AList.c 46 rfl rfl rfl (OpJ.callP (awp6) rfl rfl rfl rfl rf17) ?_
  refine AList.c 44 rfl rfl rfl (OpJ.move rfl rfl) ?_
  refine AList.c 47 rfl rfl rfl (OpJ.extract rfl rfl rfl) ?_
  refine AList.c 48 rfl rfl rfl (OpJ.extract rfl rfl rfl) ?_
  refine AList.c 14 rfl rfl rfl (OpJ.assign rfl rfl) ?_
  refine AList.c 15 rfl rfl rfl (OpJ.assign rfl rfl) ?_
  refine AList.nil ?_
  refine AWp.seq ?_
  refine AWp.region ?_
  refine AList.c 49 rfl rfl rfl (OpJ.move rfl rfl) ?_
  refine AList.c 50 rfl rfl rfl (OpJ.eql rfl rfl rfl) ?_
  refine AList.c 51 rfl rfl rfl (OpJ.move rfl rfl) ?_
  refine AList.g 52 51 rfl rfl rfl rfl rfl rfl rfl [(3, _)] (fun h => And.intro (.inl rfl) (trivial)) (fun h => (OpJ.move rfl rfl)) ?_
  refine AList.g 53 51 rfl rfl rfl rfl rfl rfl rfl [(52, _)] (fun h => And.intro (.inr ⟨_, rfl, h⟩) (trivial)) (fun h => (OpJ.eql rfl rfl rfl)) ?_
  refine AList.c 54 rfl rfl rfl (OpJ.and_ rfl rfl rfl ?_) ?_
  · first | (intro h; rw [h]; rfl) | (intro h; simp_all)
  refine AList.c 55 rfl rfl rfl (OpJ.move rfl rfl) ?_
  refine AList.g 56 55 rfl rfl rfl rfl rfl rfl rfl [(4, _)] (fun h => And.intro (.inl rfl) (trivial)) (fun h => (OpJ.move rfl rfl)) ?_
  refine AList.g 57 55 rfl rfl rfl rfl rfl rfl rfl [(56, _)] (fun h => And.intro (.inr ⟨_, rfl, h⟩) (trivial)) (fun h => (OpJ.eql rfl rfl rfl)) ?_
  refine AList.c 58 rfl rfl rfl (OpJ.and_ rfl rfl rfl ?_) ?_
  · first | (intro h; rw [h]; rfl) | (intro h; simp_all)
  refine AList.c 59 rfl rfl rfl (OpJ.move rfl rfl) ?_
  refine AList.g 60 59 rfl rfl rfl rfl rfl rfl rfl [(5, _)] (fun h => And.intro (.inl rfl) (trivial)) (fun h => (OpJ.move rfl rfl)) ?_
  refine AList.g 61 59 rfl rfl rfl rfl rfl rfl rfl [(60, _)] (fun h => And.intro (.inr ⟨_, rfl, h⟩) (trivial)) (fun h => (OpJ.eql rfl rfl rfl)) ?_
  refine AList.c 62 rfl rfl rfl (OpJ.and_ rfl rfl rfl ?_) ?_
  · first | (intro h; rw [h]; rfl) | (intro h; simp_all)
  refine AList.c 63 rfl rfl rfl (OpJ.move rfl rfl) ?_
  refine AList.g 64 63 rfl rfl rfl rfl rfl rfl rfl [(6, _)] (fun h => And.intro (.inl rfl) (trivial)) (fun h => (OpJ.move rfl rfl)) ?_
  refine AList.g 65 63 rfl rfl rfl rfl rfl rfl rfl [(64, _)] (fun h => And.intro (.inr ⟨_, rfl, h⟩) (trivial)) (fun h => (OpJ.eql rfl rfl rfl)) ?_
  refine AList.c 66 rfl rfl rfl (OpJ.and_ rfl rfl rfl ?_) ?_
  · first | (intro h; rw [h]; rfl) | (intro h; simp_all)
  refine AList.c 67 rfl rfl rfl (OpJ.move rfl rfl) ?_
  refine AList.g 68 67 rfl rfl rfl rfl rfl rfl rfl [(7, _)] (fun h => And.intro (.inl rfl) (trivial)) (fun h => (OpJ.move rfl rfl)) ?_
  refine AList.g 69 67 rfl rfl rfl rfl rfl rfl rfl [(68, _)] (fun h => And.intro (.inr ⟨_, rfl, h⟩) (trivial)) (fun h => (OpJ.eql rfl rfl rfl)) ?_
  refine AList.c 70 rfl rfl rfl (OpJ.and_ rfl rfl rfl ?_) ?_
  · first | (intro h; rw [h]; rfl) | (intro h; simp_all)
  refine AList.c 71 rfl rfl rfl (OpJ.move rfl rfl) ?_
  refine AList.g 72 71 rfl rfl rfl rfl rfl rfl rfl [(8, _)] (fun h => And.intro (.inl rfl) (trivial)) (fun h => (OpJ.move rfl rfl)) ?_
  refine AList.g 73 71 rfl rfl rfl rfl rfl rfl rfl [(72, _)] (fun h => And.intro (.inr ⟨_, rfl, h⟩) (trivial)) (fun h => (OpJ.eql rfl rfl rfl)) ?_
  refine AList.c 74 rfl rfl rfl (OpJ.and_ rfl rfl rfl ?_) ?_
  · first | (intro h; rw [h]; rfl) | (intro h; simp_all)
  refine AList.c 75 rfl rfl rfl (OpJ.move rfl rfl) ?_
  refine AList.g 76 75 rfl rfl rfl rfl rfl rfl rfl [(9, _)] (fun h => And.intro (.inl rfl) (trivial)) (fun h => (OpJ.load rfl rfl ty32 rfl)) ?_
  refine AList.g 77 75 rfl rfl rfl rfl rfl rfl rfl [] (fun h => trivial) (fun h => (OpJ.build rfl bd32 rfl rfl)) ?_
  refine AList.g 78 75 rfl rfl rfl rfl rfl rfl rfl [(76, _), (77, _)] (fun h => And.intro (.inr ⟨_, rfl, h⟩) (And.intro (.inr ⟨_, rfl, h⟩) (trivial))) (fun h => (OpJ.eqAgg (d := 8) rfl (.inl rfl) rfl rfl (by decide) eq32 ty32 rfl eg32 rfl)) ?_
  refine AList.c 79 rfl rfl rfl (OpJ.and_ rfl rfl rfl ?_) ?_
  · first | (intro h; rw [h]; rfl) | (intro h; simp_all)
  refine AList.c 80 rfl rfl rfl (OpJ.move rfl rfl) ?_
  refine AList.g 81 80 rfl rfl rfl rfl rfl rfl rfl [(10, _)] (fun h => And.intro (.inl rfl) (trivial)) (fun h => (OpJ.move rfl rfl)) ?_
  refine AList.g 82 80 rfl rfl rfl rfl rfl rfl rfl [(81, _)] (fun h => And.intro (.inr ⟨_, rfl, h⟩) (trivial)) (fun h => (OpJ.eql rfl rfl rfl)) ?_
  refine AList.c 83 rfl rfl rfl (OpJ.and_ rfl rfl rfl ?_) ?_
  · first | (intro h; rw [h]; rfl) | (intro h; simp_all)
  refine AList.c 84 rfl rfl rfl (OpJ.move rfl rfl) ?_
  refine AList.g 85 84 rfl rfl rfl rfl rfl rfl rfl [(11, _)] (fun h => And.intro (.inl rfl) (trivial)) (fun h => (OpJ.move rfl rfl)) ?_
  refine AList.g 86 84 rfl rfl rfl rfl rfl rfl rfl [(85, _)] (fun h => And.intro (.inr ⟨_, rfl, h⟩) (trivial)) (fun h => (OpJ.eql rfl rfl rfl)) ?_
  refine AList.c 87 rfl rfl rfl (OpJ.and_ rfl rfl rfl ?_) ?_
  · first | (intro h; rw [h]; rfl) | (intro h; simp_all)
  refine AList.c 88 rfl rfl rfl (OpJ.move rfl rfl) ?_
  refine AList.g 89 88 rfl rfl rfl rfl rfl rfl rfl [(12, _)] (fun h => And.intro (.inl rfl) (trivial)) (fun h => (OpJ.move rfl rfl)) ?_
  refine AList.g 90 88 rfl rfl rfl rfl rfl rfl rfl [(89, _)] (fun h => And.intro (.inr ⟨_, rfl, h⟩) (trivial)) (fun h => (OpJ.eql rfl rfl rfl)) ?_
  refine AList.c 91 rfl rfl rfl (OpJ.and_ rfl rfl rfl ?_) ?_
  · first | (intro h; rw [h]; rfl) | (intro h; simp_all)
  refine AList.c 92 rfl rfl rfl (OpJ.move rfl rfl) ?_
  refine AList.g 93 92 rfl rfl rfl rfl rfl rfl rfl [(13, _)] (fun h => And.intro (.inl rfl) (trivial)) (fun h => (OpJ.move rfl rfl)) ?_
  refine AList.g 94 92 rfl rfl rfl rfl rfl rfl rfl [(93, _)] (fun h => And.intro (.inr ⟨_, rfl, h⟩) (trivial)) (fun h => (OpJ.eql rfl rfl rfl)) ?_
  refine AList.c 95 rfl rfl rfl (OpJ.and_ rfl rfl rfl ?_) ?_
  · first | (intro h; rw [h]; rfl) | (intro h; simp_all)
  refine AList.c 96 rfl rfl rfl (OpJ.move rfl rfl) ?_
  refine AList.g 97 96 rfl rfl rfl rfl rfl rfl rfl [(15, _)] (fun h => And.intro (.inl rfl) (trivial)) (fun h => (OpJ.move rfl rfl)) ?_
  refine AList.g 98 96 rfl rfl rfl rfl rfl rfl rfl [(97, _)] (fun h => And.intro (.inr ⟨_, rfl, h⟩) (trivial)) (fun h => (OpJ.eql rfl rfl rfl)) ?_
  refine AList.c 99 rfl rfl rfl (OpJ.and_ rfl rfl rfl ?_) ?_
  · first | (intro h; rw [h]; rfl) | (intro h; simp_all)
  refine AList.c 0 rfl rfl rfl (OpJ.assign rfl rfl) ?_
  refine AList.nil ?_
  refine AWp.ret ?_
  exact Fin.one rfl (rfl)
end Go.Proofs.YtlalikkkobpfgaaDoor
