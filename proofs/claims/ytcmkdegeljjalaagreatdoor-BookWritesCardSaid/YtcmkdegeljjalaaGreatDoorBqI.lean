/-
  The law on what is written, compared with the reference.
-/
import Derived.Test.YtcmkdegeljjalaaGreatDoorBqH
section
set_option linter.unusedVariables false
set_option maxRecDepth 100000
set_option maxHeartbeats 4000000
set_option linter.unusedSimpArgs false
namespace Go.Proofs.YtcmkdegeljjalaaGreatDoor
open Go.AF
theorem bookWrites_ok (r : List Rpt) (c : List Crd) (p : List Pck) (hr : r.length ≤ bigN) (hrs : ∀ x ∈ r, x.strokes.length ≤ bigN) (hc : c.length ≤ bigN) (hp : p.length ≤ bigN) (hps : ∀ x ∈ p, x.colours.length ≤ bigN) : Pure Tryz.prog 3 [rptsV r, crdsV c, pcksV p] (.bool true) := by
  refine Pure.start (N := 85) Tryz.func3 rfl rfl (Nat.le_of_ble_eq_true rfl) ?_
  refine AWp.seq ?_
  refine AWp.region ?_
  refine AList.c 6 rfl rfl rfl (OpJ.assign rfl rfl) ?_
  refine AList.nil ?_
  refine AWp.seq ?_
  refine AWp.seq ?_
  refine AWp.region ?_
  refine AList.c 19 rfl rfl rfl (OpJ.move rfl rfl) ?_
  refine AList.c 20 rfl rfl rfl (OpJ.move rfl rfl) ?_
  refine AList.c 21 rfl rfl rfl (OpJ.move rfl rfl) ?_
  refine AList.c 22 rfl rfl rfl (OpJ.callP (many_ok r c p hr hp) rfl rfl rfl rfl rf5) ?_
  refine AList.nil ?_
  refine AWp.cond _ rfl (fun hc0 => ?_) (fun hc0 => ?_)
  · skip
    refine AWp.seq ?_
    refine AWp.region ?_
    refine AList.c 23 rfl rfl rfl (OpJ.callP (alive_ok) rfl rfl rfl rfl rf6) ?_
    refine AList.c 6 rfl rfl rfl (OpJ.assign rfl rfl) ?_
    refine AList.nil ?_
    refine AWp.ret ?_
    exact Fin.oneE rfl rfl rfl
  · skip
    refine AWp.skip ?_
    refine AWp.seq ?_
    refine AWp.region ?_
    refine AList.c 25 rfl rfl rfl (OpJ.move rfl rfl) ?_
    refine AList.c 26 rfl rfl rfl (OpJ.callP (writeReports_ok r hr hrs) rfl rfl rfl rfl rf7) ?_
    refine AList.c 24 rfl rfl rfl (OpJ.move rfl rfl) ?_
    refine AList.c 27 rfl rfl rfl (OpJ.extract rfl rfl rfl) ?_
    refine AList.c 28 rfl rfl rfl (OpJ.extract rfl rfl rfl) ?_
    refine AList.c 7 rfl rfl rfl (OpJ.assign rfl rfl) ?_
    refine AList.c 8 rfl rfl rfl (OpJ.assign rfl rfl) ?_
    refine AList.nil ?_
    refine AWp.seq ?_
    refine AWp.region ?_
    refine AList.c 30 rfl rfl rfl (OpJ.move rfl rfl) ?_
    refine AList.c 31 rfl rfl rfl (OpJ.callP (rwriteR_ok r hr hrs) rfl rfl rfl rfl rf8) ?_
    refine AList.c 29 rfl rfl rfl (OpJ.move rfl rfl) ?_
    refine AList.c 32 rfl rfl rfl (OpJ.extract rfl rfl rfl) ?_
    refine AList.c 33 rfl rfl rfl (OpJ.extract rfl rfl rfl) ?_
    refine AList.c 9 rfl rfl rfl (OpJ.assign rfl rfl) ?_
    refine AList.c 10 rfl rfl rfl (OpJ.assign rfl rfl) ?_
    refine AList.nil ?_
    refine AWp.seq ?_
    refine AWp.region ?_
    refine AList.c 35 rfl rfl rfl (OpJ.move rfl rfl) ?_
    refine AList.c 36 rfl rfl rfl (OpJ.callP (writeCards_ok c hc) rfl rfl rfl rfl rf9) ?_
    refine AList.c 34 rfl rfl rfl (OpJ.move rfl rfl) ?_
    refine AList.c 37 rfl rfl rfl (OpJ.extract rfl rfl rfl) ?_
    refine AList.c 38 rfl rfl rfl (OpJ.extract rfl rfl rfl) ?_
    refine AList.c 11 rfl rfl rfl (OpJ.assign rfl rfl) ?_
    refine AList.c 12 rfl rfl rfl (OpJ.assign rfl rfl) ?_
    refine AList.nil ?_
    refine AWp.seq ?_
    refine AWp.region ?_
    refine AList.c 40 rfl rfl rfl (OpJ.move rfl rfl) ?_
    refine AList.c 41 rfl rfl rfl (OpJ.callP (rwriteC_ok c hc) rfl rfl rfl rfl rf10) ?_
    refine AList.c 39 rfl rfl rfl (OpJ.move rfl rfl) ?_
    refine AList.c 42 rfl rfl rfl (OpJ.extract rfl rfl rfl) ?_
    refine AList.c 43 rfl rfl rfl (OpJ.extract rfl rfl rfl) ?_
    refine AList.c 13 rfl rfl rfl (OpJ.assign rfl rfl) ?_
    refine AList.c 14 rfl rfl rfl (OpJ.assign rfl rfl) ?_
    refine AList.nil ?_
    refine AWp.seq ?_
    refine AWp.region ?_
    refine AList.c 45 rfl rfl rfl (OpJ.move rfl rfl) ?_
    refine AList.c 46 rfl rfl rfl (OpJ.callP (writePacks_ok p hp hps) rfl rfl rfl rfl rf11) ?_
    refine AList.c 44 rfl rfl rfl (OpJ.move rfl rfl) ?_
    refine AList.c 47 rfl rfl rfl (OpJ.extract rfl rfl rfl) ?_
    refine AList.c 48 rfl rfl rfl (OpJ.extract rfl rfl rfl) ?_
    refine AList.c 15 rfl rfl rfl (OpJ.assign rfl rfl) ?_
    refine AList.c 16 rfl rfl rfl (OpJ.assign rfl rfl) ?_
    refine AList.nil ?_
    refine AWp.seq ?_
    refine AWp.region ?_
    refine AList.c 50 rfl rfl rfl (OpJ.move rfl rfl) ?_
    refine AList.c 51 rfl rfl rfl (OpJ.callP (rwriteP_ok p hp hps) rfl rfl rfl rfl rf12) ?_
    refine AList.c 49 rfl rfl rfl (OpJ.move rfl rfl) ?_
    refine AList.c 52 rfl rfl rfl (OpJ.extract rfl rfl rfl) ?_
    refine AList.c 53 rfl rfl rfl (OpJ.extract rfl rfl rfl) ?_
    refine AList.c 17 rfl rfl rfl (OpJ.assign rfl rfl) ?_
    refine AList.c 18 rfl rfl rfl (OpJ.assign rfl rfl) ?_
    refine AList.nil ?_
    refine AWp.seq ?_
    refine AWp.region ?_
    refine AList.c 54 rfl rfl rfl (OpJ.move rfl rfl) ?_
    refine AList.c 55 rfl rfl rfl (OpJ.move rfl rfl) ?_
    refine AList.c 56 rfl rfl rfl (OpJ.strEq (wrR r).1 (wrR r).1 rfl rfl rfl) ?_
    refine AList.c 57 rfl rfl rfl (OpJ.move rfl rfl) ?_
    refine AList.g 58 57 rfl rfl rfl rfl rfl rfl rfl [(8, _)] (fun h => And.intro (.inl rfl) (trivial)) (fun h => (OpJ.move rfl rfl)) ?_
    refine AList.g 59 57 rfl rfl rfl rfl rfl rfl rfl [(10, _)] (fun h => And.intro (.inl rfl) (trivial)) (fun h => (OpJ.move rfl rfl)) ?_
    refine AList.g 60 57 rfl rfl rfl rfl rfl rfl rfl [(58, _), (59, _)] (fun h => And.intro (.inr ⟨_, rfl, h⟩) (And.intro (.inr ⟨_, rfl, h⟩) (trivial))) (fun h => (OpJ.eql rfl rfl rfl)) ?_
    refine AList.c 61 rfl rfl rfl (OpJ.and_ rfl rfl rfl ?_) ?_
    · first | (intro h; rw [h]; rfl) | (intro h; simp_all)
    refine AList.c 62 rfl rfl rfl (OpJ.move rfl rfl) ?_
    refine AList.g 63 62 rfl rfl rfl rfl rfl rfl rfl [(11, _)] (fun h => And.intro (.inl rfl) (trivial)) (fun h => (OpJ.move rfl rfl)) ?_
    refine AList.g 64 62 rfl rfl rfl rfl rfl rfl rfl [(13, _)] (fun h => And.intro (.inl rfl) (trivial)) (fun h => (OpJ.move rfl rfl)) ?_
    refine AList.g 65 62 rfl rfl rfl rfl rfl rfl rfl [(63, _), (64, _)] (fun h => And.intro (.inr ⟨_, rfl, h⟩) (And.intro (.inr ⟨_, rfl, h⟩) (trivial))) (fun h => (OpJ.strEq (wrC c).1 (wrC c).1 rfl rfl rfl)) ?_
    refine AList.c 66 rfl rfl rfl (OpJ.and_ rfl rfl rfl ?_) ?_
    · first | (intro h; rw [h]; rfl) | (intro h; simp_all)
    refine AList.c 67 rfl rfl rfl (OpJ.move rfl rfl) ?_
    refine AList.g 68 67 rfl rfl rfl rfl rfl rfl rfl [(12, _)] (fun h => And.intro (.inl rfl) (trivial)) (fun h => (OpJ.move rfl rfl)) ?_
    refine AList.g 69 67 rfl rfl rfl rfl rfl rfl rfl [(14, _)] (fun h => And.intro (.inl rfl) (trivial)) (fun h => (OpJ.move rfl rfl)) ?_
    refine AList.g 70 67 rfl rfl rfl rfl rfl rfl rfl [(68, _), (69, _)] (fun h => And.intro (.inr ⟨_, rfl, h⟩) (And.intro (.inr ⟨_, rfl, h⟩) (trivial))) (fun h => (OpJ.eql rfl rfl rfl)) ?_
    refine AList.c 71 rfl rfl rfl (OpJ.and_ rfl rfl rfl ?_) ?_
    · first | (intro h; rw [h]; rfl) | (intro h; simp_all)
    refine AList.c 72 rfl rfl rfl (OpJ.move rfl rfl) ?_
    refine AList.g 73 72 rfl rfl rfl rfl rfl rfl rfl [(15, _)] (fun h => And.intro (.inl rfl) (trivial)) (fun h => (OpJ.move rfl rfl)) ?_
    refine AList.g 74 72 rfl rfl rfl rfl rfl rfl rfl [(17, _)] (fun h => And.intro (.inl rfl) (trivial)) (fun h => (OpJ.move rfl rfl)) ?_
    refine AList.g 75 72 rfl rfl rfl rfl rfl rfl rfl [(73, _), (74, _)] (fun h => And.intro (.inr ⟨_, rfl, h⟩) (And.intro (.inr ⟨_, rfl, h⟩) (trivial))) (fun h => (OpJ.strEq (wrP p).1 (wrP p).1 rfl rfl rfl)) ?_
    refine AList.c 76 rfl rfl rfl (OpJ.and_ rfl rfl rfl ?_) ?_
    · first | (intro h; rw [h]; rfl) | (intro h; simp_all)
    refine AList.c 77 rfl rfl rfl (OpJ.move rfl rfl) ?_
    refine AList.g 78 77 rfl rfl rfl rfl rfl rfl rfl [(16, _)] (fun h => And.intro (.inl rfl) (trivial)) (fun h => (OpJ.move rfl rfl)) ?_
    refine AList.g 79 77 rfl rfl rfl rfl rfl rfl rfl [(18, _)] (fun h => And.intro (.inl rfl) (trivial)) (fun h => (OpJ.move rfl rfl)) ?_
    refine AList.g 80 77 rfl rfl rfl rfl rfl rfl rfl [(78, _), (79, _)] (fun h => And.intro (.inr ⟨_, rfl, h⟩) (And.intro (.inr ⟨_, rfl, h⟩) (trivial))) (fun h => (OpJ.eql rfl rfl rfl)) ?_
    refine AList.c 81 rfl rfl rfl (OpJ.and_ rfl rfl rfl ?_) ?_
    · first | (intro h; rw [h]; rfl) | (intro h; simp_all)
    refine AList.c 82 rfl rfl rfl (OpJ.move rfl rfl) ?_
    refine AList.g 83 82 rfl rfl rfl rfl rfl rfl rfl [] (fun h => trivial) (fun h => (OpJ.callP (alive_ok) rfl rfl rfl rfl rf6)) ?_
    refine AList.c 84 rfl rfl rfl (OpJ.and_ rfl rfl rfl ?_) ?_
    · first | (intro h; rw [h]; rfl) | (intro h; simp_all)
    refine AList.c 6 rfl rfl rfl (OpJ.assign rfl rfl) ?_
    refine AList.nil ?_
    refine AWp.ret ?_
    refine Fin.oneE rfl rfl ?_
    simp
theorem bookWrites_law {x0 x1 x2 : List PV} (h0 : TyL [.sl shR] x0) (h1 : TyL [.sl shC] x1) (h2 : TyL [.sl shP] x2) : Pure Tryz.prog 3 [argP false x0, argP false x1, argP false x2] (.bool true) := by
  obtain ⟨r, rfl, hr, hrs⟩ := rpts_of h0
  obtain ⟨c, rfl, hc⟩ := crds_of h1
  obtain ⟨p, rfl, hp, hps⟩ := pcks_of h2
  exact bookWrites_ok r c p hr hrs hc hp hps
end Go.Proofs.YtcmkdegeljjalaaGreatDoor
end
