/-
  The document's numbers and the chapter's examples: the law.
-/
import Derived.Test.YtambmifhidallaaGreatDoorBnFactsC
import Derived.Test.YtambmifhidallaaGreatDoorBqG
section
set_option linter.unusedVariables false
set_option maxRecDepth 100000
set_option maxHeartbeats 4000000
set_option linter.unusedSimpArgs false
namespace Go.Proofs.YtambmifhidallaaGreatDoor
open Go.AF
theorem rdP_err {s : Bs} (h : (rdP s).2 = 8) : rdP s = (.nilSlice, 8) := by
  unfold rdP at h ⊢
  split at h
  · rename_i h1
    rw [if_pos h1]
    split at h
    · split at h
      · cases h
      · rename_i h2; rw [if_neg h2]
    · rfl
  · rename_i h1
    rw [if_neg h1]
    exact congrArg (Prod.mk _) h
theorem rdC_err {s : Bs} {n : Int} (h : (rdC s).2 = n) (hn : n ≠ 0) : rdC s = (.nilSlice, n) := by
  subst h
  unfold rdC at hn ⊢
  split
  · rename_i h1
    rw [if_pos h1] at hn
    split
    · rename_i h2
      rw [if_pos h2] at hn
      exact absurd rfl hn
    · rfl
  · rfl
theorem rpk0 : Pure Tryz.prog 5 [.str (sB [55, 58, 32, 49, 45, 50, 10])] (.tuple [.nilSlice, .int .i64 8]) := by
  have h := readPacks_ok [55, 58, 32, 49, 45, 50, 10]
  rwa [rdP_err (s := [55, 58, 32, 49, 45, 50, 10]) (by decide +kernel)] at h
theorem rpk1 : Pure Tryz.prog 5 [.str (sB [55, 58, 32, 49, 32, 50, 32, 51, 10])] (.tuple [.nilSlice, .int .i64 8]) := by
  have h := readPacks_ok [55, 58, 32, 49, 32, 50, 32, 51, 10]
  rwa [rdP_err (s := [55, 58, 32, 49, 32, 50, 32, 51, 10]) (by decide +kernel)] at h
theorem rpk2 : Pure Tryz.prog 5 [.str (sB [55, 58, 32, 50, 32, 49, 10])] (.tuple [.nilSlice, .int .i64 8]) := by
  have h := readPacks_ok [55, 58, 32, 50, 32, 49, 10]
  rwa [rdP_err (s := [55, 58, 32, 50, 32, 49, 10]) (by decide +kernel)] at h
theorem rpk3 : Pure Tryz.prog 5 [.str (sB [55, 58, 10])] (.tuple [.nilSlice, .int .i64 8]) := by
  have h := readPacks_ok [55, 58, 10]
  rwa [rdP_err (s := [55, 58, 10]) (by decide +kernel)] at h
theorem rcd1 : Pure Tryz.prog 6 [.str (sB (((([80, 67, 1, 2, 5, 172, 2, 2, 5, 200, 1, 1, 173, 2, 0, 0, 5, 206] : Bs).drop 0).take (17 - 0)) ++ [207]))] (.tuple [.nilSlice, .int .i64 11]) := by
  have h := readCards_ok (((([80, 67, 1, 2, 5, 172, 2, 2, 5, 200, 1, 1, 173, 2, 0, 0, 5, 206] : Bs).drop 0).take (17 - 0)) ++ [207])
  rwa [rdC_err (s := ((([80, 67, 1, 2, 5, 172, 2, 2, 5, 200, 1, 1, 173, 2, 0, 0, 5, 206] : Bs).drop 0).take (17 - 0)) ++ [207]) (n := 11) (by decide +kernel) (by decide)] at h
def cdB : Bs := [80, 67, 1, 2, 5, 172, 2, 2, 5, 200, 1, 1, 173, 2, 0, 0, 5, 206]
def cdB2 : Bs := [80, 67, 1, 2, 133, 0, 172, 2, 2, 5, 200, 1, 1, 173, 2, 0, 0, 5, 206]
theorem rcd2 : Pure Tryz.prog 6 [.str (sB cdB2)] (.tuple [.nilSlice, .int .i64 8]) := by
  have h := readCards_ok cdB2
  rwa [rdC_err (s := cdB2) (n := 8) (by decide +kernel) (by decide)] at h
theorem bext : Go.Proofs.Builder.Extra Tryz.prog Tryz.lays154_ren where
  sizeBuilder := by kernel_rfl
  liesBuilder := by kernel_rfl
  t5 := Tryz.lays154.t5
  a5 := run_isAgg_plain Tryz.lays154.t5 rfl
  z5 := Tryz.lays154.z5
  v5 := Tryz.lays154.v5
  infoByte := by kernel_rfl
  cellsByte := by kernel_rfl
  sizeByte := by kernel_rfl
  neB5 := by decide
theorem repl_ok : Pure Tryz.prog 7 [.str (sB [80, 67, 1, 2, 5, 172, 2, 2, 5, 200, 1, 1, 173, 2, 0, 0, 5, 206]), .str (sB [5]), .str (sB [133, 0]), .int .i64 1] (.str (sB cdB2)) :=
  Pure.ofBelow (us := [.string (sB [80, 67, 1, 2, 5, 172, 2, 2, 5, 200, 1, 1, 173, 2, 0, 0, 5, 206]), .string (sB [5]), .string (sB [133, 0]), .int .i64 1]) (fun w I vs h => by
    obtain ⟨u0, vs0, rfl, k0, u1, vs1, rfl, k1, u2, vs2, rfl, k2, u3, vs3, rfl, k3, k4⟩ := h
    have k0 : u0 = .string (sB [80, 67, 1, 2, 5, 172, 2, 2, 5, 200, 1, 1, 173, 2, 0, 0, 5, 206]) := k0
    have k1 : u1 = .string (sB [5]) := k1
    have k2 : u2 = .string (sB [133, 0]) := k2
    have k3 : u3 = .int .i64 1 := k3
    have k4 : vs3 = [] := k4
    rw [k0, k1, k2, k3, k4]) fun w I hg => by
    obtain ⟨m, hm⟩ := maxLen_of hg mxl
    refine (Go.Proofs.Any.strings_Replace Tryz.lays154 bext (sB [80, 67, 1, 2, 5, 172, 2, 2, 5, 200, 1, 1, 173, 2, 0, 0, 5, 206]) (sB [5]) (sB [133, 0]) 1 m w (by decide +kernel) hm (by decide +kernel) (by decide +kernel)).mono fun e w' ⟨h1, h2⟩ => ⟨_, h1, fun _ _ => ?_, h2⟩
    have e : Lib.replace (sB [80, 67, 1, 2, 5, 172, 2, 2, 5, 200, 1, 1, 173, 2, 0, 0, 5, 206]).data.toList (sB [5]).data.toList (sB [133, 0]).data.toList 1 = cdB2 := by
      rw [sB_list, sB_list, sB_list]
      decide +kernel
    rw [e]
    rfl
theorem bookNames_ok  : Pure Tryz.prog 3 [] (.bool true) := by
  refine Pure.start (N := 50) Tryz.func3 rfl rfl (Nat.le_of_ble_eq_true rfl) ?_
  refine AWp.seq ?_
  refine AWp.region ?_
  refine AList.c 0 rfl rfl rfl (OpJ.assign rfl rfl) ?_
  refine AList.nil ?_
  refine AWp.seq ?_
  refine AWp.seq ?_
  refine AWp.region ?_
  refine AList.c 9 rfl rfl rfl (OpJ.buildImm rfl slz22 (by decide) rfl rfl rfl) ?_
  refine AList.c 10 rfl rfl rfl (OpJ.lenSlice rfl rfl sl22 rfl) ?_
  refine AList.c 11 rfl rfl rfl (OpJ.move rfl rfl) ?_
  refine AList.nil ?_
  refine AWp.block ?_
  refine AWp.unroll 5 ?_
  refine ARounds.next ?_
  refine AWp.seq ?_
  refine AWp.region ?_
  refine AList.c 12 rfl rfl rfl (OpJ.lss rfl rfl rfl) ?_
  refine AList.nil ?_
  refine AWp.seq ?_
  refine AWp.condT rfl ?_
  refine AWp.skip ?_
  refine AWp.seq ?_
  refine AWp.block ?_
  refine AWp.seq ?_
  refine AWp.region ?_
  refine AList.c 13 rfl rfl rfl (OpJ.indexEl (k := 0) (xs := [[55, 58, 32, 49, 45, 50, 10], [55, 58, 32, 49, 32, 50, 32, 51, 10], [55, 58, 32, 50, 32, 49, 10], [55, 58, 10]]) (f := lnC) rfl rfl rfl sl22 el22 rfl (fun _ => rfl) (by decide) (by show 0 < 4; decide)) ?_
  refine AList.c 14 rfl rfl rfl (OpJ.load (v := .p (.str (sB [55, 58, 32, 49, 45, 50, 10]))) rfl rfl ty9 rfl) ?_
  refine AList.c 2 rfl rfl rfl (OpJ.assign rfl rfl) ?_
  refine AList.nil ?_
  refine AWp.seq ?_
  refine AWp.region ?_
  refine AList.c 16 rfl rfl rfl (OpJ.move rfl rfl) ?_
  refine AList.c 17 rfl rfl rfl (OpJ.callP (rpk0) rfl rfl rfl rfl rf5) ?_
  refine AList.c 15 rfl rfl rfl (OpJ.move rfl rfl) ?_
  refine AList.c 18 rfl rfl rfl (OpJ.extract rfl rfl rfl) ?_
  refine AList.c 19 rfl rfl rfl (OpJ.extract rfl rfl rfl) ?_
  refine AList.c 3 rfl rfl rfl (OpJ.assign rfl rfl) ?_
  refine AList.c 4 rfl rfl rfl (OpJ.assign rfl rfl) ?_
  refine AList.nil ?_
  refine AWp.seq ?_
  refine AWp.region ?_
  refine AList.c 20 rfl rfl rfl (OpJ.move rfl rfl) ?_
  refine AList.c 21 rfl rfl rfl (OpJ.lenSlice rfl rfl sl23 rfl) ?_
  refine AList.c 22 rfl rfl rfl (OpJ.neq rfl rfl rfl) ?_
  refine AList.c 23 rfl rfl rfl (OpJ.move rfl rfl) ?_
  refine AList.g 24 23 rfl rfl rfl rfl rfl rfl rfl [(4, _)] (fun h => And.intro (.inl rfl) (trivial)) (fun h => (OpJ.move rfl rfl)) ?_
  refine AList.g 25 23 rfl rfl rfl rfl rfl rfl rfl [(24, _)] (fun h => And.intro (.inr ⟨_, rfl, h⟩) (trivial)) (fun h => (OpJ.neq rfl rfl rfl)) ?_
  refine AList.c 26 rfl rfl rfl (OpJ.or_ rfl rfl rfl ?_) ?_
  · first | (intro h; rw [h]; rfl) | (intro h; simp_all)
  refine AList.nil ?_
  refine AWp.cond _ rfl (fun hc1 => ?_) (fun hc1 => ?_)
  · skip
    exfalso
    simp at hc1
  · skip
    refine AWp.skip ?_
    refine AWp.region ?_
    refine AList.c 27 rfl rfl rfl (OpJ.add rfl rfl rfl (i64ok ?_)) ?_
    · decide
    refine AList.c 11 rfl rfl rfl (OpJ.move rfl rfl) ?_
    refine AList.nil ?_
    refine ARounds.next ?_
    refine AWp.seq ?_
    refine AWp.region ?_
    refine AList.c 12 rfl rfl rfl (OpJ.lss rfl rfl rfl) ?_
    refine AList.nil ?_
    refine AWp.seq ?_
    refine AWp.condT rfl ?_
    refine AWp.skip ?_
    refine AWp.seq ?_
    refine AWp.block ?_
    refine AWp.seq ?_
    refine AWp.region ?_
    refine AList.c 13 rfl rfl rfl (OpJ.indexEl (k := 1) (xs := [[55, 58, 32, 49, 45, 50, 10], [55, 58, 32, 49, 32, 50, 32, 51, 10], [55, 58, 32, 50, 32, 49, 10], [55, 58, 10]]) (f := lnC) rfl rfl rfl sl22 el22 rfl (fun _ => rfl) (by decide) (by show 1 < 4; decide)) ?_
    refine AList.c 14 rfl rfl rfl (OpJ.load (v := .p (.str (sB [55, 58, 32, 49, 32, 50, 32, 51, 10]))) rfl rfl ty9 rfl) ?_
    refine AList.c 2 rfl rfl rfl (OpJ.assign rfl rfl) ?_
    refine AList.nil ?_
    refine AWp.seq ?_
    refine AWp.region ?_
    refine AList.c 16 rfl rfl rfl (OpJ.move rfl rfl) ?_
    refine AList.c 17 rfl rfl rfl (OpJ.callP (rpk1) rfl rfl rfl rfl rf5) ?_
    refine AList.c 15 rfl rfl rfl (OpJ.move rfl rfl) ?_
    refine AList.c 18 rfl rfl rfl (OpJ.extract rfl rfl rfl) ?_
    refine AList.c 19 rfl rfl rfl (OpJ.extract rfl rfl rfl) ?_
    refine AList.c 3 rfl rfl rfl (OpJ.assign rfl rfl) ?_
    refine AList.c 4 rfl rfl rfl (OpJ.assign rfl rfl) ?_
    refine AList.nil ?_
    refine AWp.seq ?_
    refine AWp.region ?_
    refine AList.c 20 rfl rfl rfl (OpJ.move rfl rfl) ?_
    refine AList.c 21 rfl rfl rfl (OpJ.lenSlice rfl rfl sl23 rfl) ?_
    refine AList.c 22 rfl rfl rfl (OpJ.neq rfl rfl rfl) ?_
    refine AList.c 23 rfl rfl rfl (OpJ.move rfl rfl) ?_
    refine AList.g 24 23 rfl rfl rfl rfl rfl rfl rfl [(4, _)] (fun h => And.intro (.inl rfl) (trivial)) (fun h => (OpJ.move rfl rfl)) ?_
    refine AList.g 25 23 rfl rfl rfl rfl rfl rfl rfl [(24, _)] (fun h => And.intro (.inr ⟨_, rfl, h⟩) (trivial)) (fun h => (OpJ.neq rfl rfl rfl)) ?_
    refine AList.c 26 rfl rfl rfl (OpJ.or_ rfl rfl rfl ?_) ?_
    · first | (intro h; rw [h]; rfl) | (intro h; simp_all)
    refine AList.nil ?_
    refine AWp.cond _ rfl (fun hc1 => ?_) (fun hc1 => ?_)
    · skip
      exfalso
      simp at hc1
    · skip
      refine AWp.skip ?_
      refine AWp.region ?_
      refine AList.c 27 rfl rfl rfl (OpJ.add rfl rfl rfl (i64ok ?_)) ?_
      · decide
      refine AList.c 11 rfl rfl rfl (OpJ.move rfl rfl) ?_
      refine AList.nil ?_
      refine ARounds.next ?_
      refine AWp.seq ?_
      refine AWp.region ?_
      refine AList.c 12 rfl rfl rfl (OpJ.lss rfl rfl rfl) ?_
      refine AList.nil ?_
      refine AWp.seq ?_
      refine AWp.condT rfl ?_
      refine AWp.skip ?_
      refine AWp.seq ?_
      refine AWp.block ?_
      refine AWp.seq ?_
      refine AWp.region ?_
      refine AList.c 13 rfl rfl rfl (OpJ.indexEl (k := 2) (xs := [[55, 58, 32, 49, 45, 50, 10], [55, 58, 32, 49, 32, 50, 32, 51, 10], [55, 58, 32, 50, 32, 49, 10], [55, 58, 10]]) (f := lnC) rfl rfl rfl sl22 el22 rfl (fun _ => rfl) (by decide) (by show 2 < 4; decide)) ?_
      refine AList.c 14 rfl rfl rfl (OpJ.load (v := .p (.str (sB [55, 58, 32, 50, 32, 49, 10]))) rfl rfl ty9 rfl) ?_
      refine AList.c 2 rfl rfl rfl (OpJ.assign rfl rfl) ?_
      refine AList.nil ?_
      refine AWp.seq ?_
      refine AWp.region ?_
      refine AList.c 16 rfl rfl rfl (OpJ.move rfl rfl) ?_
      refine AList.c 17 rfl rfl rfl (OpJ.callP (rpk2) rfl rfl rfl rfl rf5) ?_
      refine AList.c 15 rfl rfl rfl (OpJ.move rfl rfl) ?_
      refine AList.c 18 rfl rfl rfl (OpJ.extract rfl rfl rfl) ?_
      refine AList.c 19 rfl rfl rfl (OpJ.extract rfl rfl rfl) ?_
      refine AList.c 3 rfl rfl rfl (OpJ.assign rfl rfl) ?_
      refine AList.c 4 rfl rfl rfl (OpJ.assign rfl rfl) ?_
      refine AList.nil ?_
      refine AWp.seq ?_
      refine AWp.region ?_
      refine AList.c 20 rfl rfl rfl (OpJ.move rfl rfl) ?_
      refine AList.c 21 rfl rfl rfl (OpJ.lenSlice rfl rfl sl23 rfl) ?_
      refine AList.c 22 rfl rfl rfl (OpJ.neq rfl rfl rfl) ?_
      refine AList.c 23 rfl rfl rfl (OpJ.move rfl rfl) ?_
      refine AList.g 24 23 rfl rfl rfl rfl rfl rfl rfl [(4, _)] (fun h => And.intro (.inl rfl) (trivial)) (fun h => (OpJ.move rfl rfl)) ?_
      refine AList.g 25 23 rfl rfl rfl rfl rfl rfl rfl [(24, _)] (fun h => And.intro (.inr ⟨_, rfl, h⟩) (trivial)) (fun h => (OpJ.neq rfl rfl rfl)) ?_
      refine AList.c 26 rfl rfl rfl (OpJ.or_ rfl rfl rfl ?_) ?_
      · first | (intro h; rw [h]; rfl) | (intro h; simp_all)
      refine AList.nil ?_
      refine AWp.cond _ rfl (fun hc1 => ?_) (fun hc1 => ?_)
      · skip
        exfalso
        simp at hc1
      · skip
        refine AWp.skip ?_
        refine AWp.region ?_
        refine AList.c 27 rfl rfl rfl (OpJ.add rfl rfl rfl (i64ok ?_)) ?_
        · decide
        refine AList.c 11 rfl rfl rfl (OpJ.move rfl rfl) ?_
        refine AList.nil ?_
        refine ARounds.next ?_
        refine AWp.seq ?_
        refine AWp.region ?_
        refine AList.c 12 rfl rfl rfl (OpJ.lss rfl rfl rfl) ?_
        refine AList.nil ?_
        refine AWp.seq ?_
        refine AWp.condT rfl ?_
        refine AWp.skip ?_
        refine AWp.seq ?_
        refine AWp.block ?_
        refine AWp.seq ?_
        refine AWp.region ?_
        refine AList.c 13 rfl rfl rfl (OpJ.indexEl (k := 3) (xs := [[55, 58, 32, 49, 45, 50, 10], [55, 58, 32, 49, 32, 50, 32, 51, 10], [55, 58, 32, 50, 32, 49, 10], [55, 58, 10]]) (f := lnC) rfl rfl rfl sl22 el22 rfl (fun _ => rfl) (by decide) (by show 3 < 4; decide)) ?_
        refine AList.c 14 rfl rfl rfl (OpJ.load (v := .p (.str (sB [55, 58, 10]))) rfl rfl ty9 rfl) ?_
        refine AList.c 2 rfl rfl rfl (OpJ.assign rfl rfl) ?_
        refine AList.nil ?_
        refine AWp.seq ?_
        refine AWp.region ?_
        refine AList.c 16 rfl rfl rfl (OpJ.move rfl rfl) ?_
        refine AList.c 17 rfl rfl rfl (OpJ.callP (rpk3) rfl rfl rfl rfl rf5) ?_
        refine AList.c 15 rfl rfl rfl (OpJ.move rfl rfl) ?_
        refine AList.c 18 rfl rfl rfl (OpJ.extract rfl rfl rfl) ?_
        refine AList.c 19 rfl rfl rfl (OpJ.extract rfl rfl rfl) ?_
        refine AList.c 3 rfl rfl rfl (OpJ.assign rfl rfl) ?_
        refine AList.c 4 rfl rfl rfl (OpJ.assign rfl rfl) ?_
        refine AList.nil ?_
        refine AWp.seq ?_
        refine AWp.region ?_
        refine AList.c 20 rfl rfl rfl (OpJ.move rfl rfl) ?_
        refine AList.c 21 rfl rfl rfl (OpJ.lenSlice rfl rfl sl23 rfl) ?_
        refine AList.c 22 rfl rfl rfl (OpJ.neq rfl rfl rfl) ?_
        refine AList.c 23 rfl rfl rfl (OpJ.move rfl rfl) ?_
        refine AList.g 24 23 rfl rfl rfl rfl rfl rfl rfl [(4, _)] (fun h => And.intro (.inl rfl) (trivial)) (fun h => (OpJ.move rfl rfl)) ?_
        refine AList.g 25 23 rfl rfl rfl rfl rfl rfl rfl [(24, _)] (fun h => And.intro (.inr ⟨_, rfl, h⟩) (trivial)) (fun h => (OpJ.neq rfl rfl rfl)) ?_
        refine AList.c 26 rfl rfl rfl (OpJ.or_ rfl rfl rfl ?_) ?_
        · first | (intro h; rw [h]; rfl) | (intro h; simp_all)
        refine AList.nil ?_
        refine AWp.cond _ rfl (fun hc1 => ?_) (fun hc1 => ?_)
        · skip
          exfalso
          simp at hc1
        · skip
          refine AWp.skip ?_
          refine AWp.region ?_
          refine AList.c 27 rfl rfl rfl (OpJ.add rfl rfl rfl (i64ok ?_)) ?_
          · decide
          refine AList.c 11 rfl rfl rfl (OpJ.move rfl rfl) ?_
          refine AList.nil ?_
          refine ARounds.next ?_
          refine AWp.seq ?_
          refine AWp.region ?_
          refine AList.c 12 rfl rfl rfl (OpJ.lss rfl rfl rfl) ?_
          refine AList.nil ?_
          refine AWp.seq ?_
          refine AWp.condF rfl ?_
          refine AWp.exit ?_
          refine AWp.seq ?_
          refine AWp.region ?_
          refine AList.c 29 rfl rfl rfl (OpJ.strCut [80, 67, 1, 2, 5, 172, 2, 2, 5, 200, 1, 1, 173, 2, 0, 0, 5, 206] 0 17 rfl rfl st9 rfl ⟨_, rfl⟩ (by decide) (by decide)) ?_
          refine AList.c 30 rfl rfl rfl (OpJ.strAdd _ _ rfl rfl rfl ?_) ?_
          · decide
          refine AList.c 31 rfl rfl rfl (OpJ.callP (rcd1) rfl rfl rfl rfl rf6) ?_
          refine AList.c 28 rfl rfl rfl (OpJ.move rfl rfl) ?_
          refine AList.c 32 rfl rfl rfl (OpJ.extract rfl rfl rfl) ?_
          refine AList.c 33 rfl rfl rfl (OpJ.extract rfl rfl rfl) ?_
          refine AList.c 5 rfl rfl rfl (OpJ.assign rfl rfl) ?_
          refine AList.c 6 rfl rfl rfl (OpJ.assign rfl rfl) ?_
          refine AList.nil ?_
          refine AWp.seq ?_
          refine AWp.region ?_
          refine AList.c 35 rfl rfl rfl (OpJ.callP (repl_ok) rfl rfl rfl rfl rf7) ?_
          refine AList.c 36 rfl rfl rfl (OpJ.callP (rcd2) rfl rfl rfl rfl rf6) ?_
          refine AList.c 34 rfl rfl rfl (OpJ.move rfl rfl) ?_
          refine AList.c 37 rfl rfl rfl (OpJ.extract rfl rfl rfl) ?_
          refine AList.c 38 rfl rfl rfl (OpJ.extract rfl rfl rfl) ?_
          refine AList.c 7 rfl rfl rfl (OpJ.assign rfl rfl) ?_
          refine AList.c 8 rfl rfl rfl (OpJ.assign rfl rfl) ?_
          refine AList.nil ?_
          refine AWp.seq ?_
          refine AWp.region ?_
          refine AList.c 39 rfl rfl rfl (OpJ.move rfl rfl) ?_
          refine AList.g 40 39 rfl rfl rfl rfl rfl rfl rfl [] (fun h => trivial) (fun h => (OpJ.callP (alive_ok) rfl rfl rfl rfl rf8)) ?_
          refine AList.c 41 rfl rfl rfl (OpJ.and_ rfl rfl rfl ?_) ?_
          · first | (intro h; rw [h]; rfl) | (intro h; simp_all)
          refine AList.c 42 rfl rfl rfl (OpJ.move rfl rfl) ?_
          refine AList.g 43 42 rfl rfl rfl rfl rfl rfl rfl [(6, _)] (fun h => And.intro (.inl rfl) (trivial)) (fun h => (OpJ.move rfl rfl)) ?_
          refine AList.g 44 42 rfl rfl rfl rfl rfl rfl rfl [(43, _)] (fun h => And.intro (.inr ⟨_, rfl, h⟩) (trivial)) (fun h => (OpJ.eql rfl rfl rfl)) ?_
          refine AList.c 45 rfl rfl rfl (OpJ.and_ rfl rfl rfl ?_) ?_
          · first | (intro h; rw [h]; rfl) | (intro h; simp_all)
          refine AList.c 46 rfl rfl rfl (OpJ.move rfl rfl) ?_
          refine AList.g 47 46 rfl rfl rfl rfl rfl rfl rfl [(8, _)] (fun h => And.intro (.inl rfl) (trivial)) (fun h => (OpJ.move rfl rfl)) ?_
          refine AList.g 48 46 rfl rfl rfl rfl rfl rfl rfl [(47, _)] (fun h => And.intro (.inr ⟨_, rfl, h⟩) (trivial)) (fun h => (OpJ.eql rfl rfl rfl)) ?_
          refine AList.c 49 rfl rfl rfl (OpJ.and_ rfl rfl rfl ?_) ?_
          · first | (intro h; rw [h]; rfl) | (intro h; simp_all)
          refine AList.c 0 rfl rfl rfl (OpJ.assign rfl rfl) ?_
          refine AList.nil ?_
          refine AWp.ret ?_
          exact Fin.oneE rfl rfl rfl
end Go.Proofs.YtambmifhidallaaGreatDoor
end
