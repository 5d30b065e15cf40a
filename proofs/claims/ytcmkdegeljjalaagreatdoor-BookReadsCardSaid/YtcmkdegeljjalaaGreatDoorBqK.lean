/-
  The law on what is read, compared with the reference.
-/
import Derived.Test.YtcmkdegeljjalaaGreatDoorBqH
import Derived.Test.YtcmkdegeljjalaaGreatDoorBqJ
section
set_option linter.unusedVariables false
set_option maxRecDepth 100000
set_option maxHeartbeats 4000000
set_option linter.unusedSimpArgs false
namespace Go.Proofs.YtcmkdegeljjalaaGreatDoor
open Go.AF
theorem sameR_self (s : Bs) : Pure Tryz.prog 19 [(opR s).1, (opR s).1] (.bool true) := by
  have h0 : Pure Tryz.prog 19 [.nilSlice, .nilSlice] (.bool true) := Pure.acc (P := Tryz.prog) (f := 19) [] (n := 0) (xs := []) (fun _ => rfl) (Pure.acc (P := Tryz.prog) (f := 19) [.is [] 0] (n := 0) (xs := []) (r := []) (fun _ => rfl) (sameR_ok [] [] (by decide) (by decide) (by decide) (by decide)))
  rcases Nat.lt_or_ge 65536 s.length with h | h
  · rw [opR_big h]; exact h0
  · obtain ⟨v, e, n, g, _, ⟨_, l, rfl, h1, h2, _⟩ | ⟨_, _, rfl⟩⟩ := opR_forms h
    · rw [g]
      have := sameR_ok l l (Nat.le_trans h1 (by decide)) (Nat.le_trans h1 (by decide)) (rptsB_n h2) (rptsB_n h2)
      rwa [decide_eq_true rfl] at this
    · rw [g]; exact h0
theorem sameC_self (s : Bs) : Pure Tryz.prog 20 [(rdC s).1, (rdC s).1] (.bool true) := by
  have h0 : Pure Tryz.prog 20 [.nilSlice, .nilSlice] (.bool true) := Pure.acc (P := Tryz.prog) (f := 20) [] (n := 0) (xs := []) (fun _ => rfl) (Pure.acc (P := Tryz.prog) (f := 20) [.is [] 0] (n := 0) (xs := []) (r := []) (fun _ => rfl) (sameC_ok [] [] (by decide) (by decide)))
  rcases Nat.lt_or_ge 65536 s.length with h | h
  · rw [rdC_big h]; exact h0
  · obtain ⟨v, e, n, g, _, ⟨_, l, rfl, h1, h2, _⟩ | ⟨_, _, rfl⟩⟩ := rdC_forms h
    · rw [g]
      have := sameC_ok l l (Nat.le_trans h1 (by decide)) (Nat.le_trans h1 (by decide))
      rwa [decide_eq_true rfl] at this
    · rw [g]; exact h0
theorem sameP_self (s : Bs) : Pure Tryz.prog 21 [(rdP s).1, (rdP s).1] (.bool true) := by
  have h0 : Pure Tryz.prog 21 [.nilSlice, .nilSlice] (.bool true) := Pure.acc (P := Tryz.prog) (f := 21) [] (n := 0) (xs := []) (fun _ => rfl) (Pure.acc (P := Tryz.prog) (f := 21) [.is [] 0] (n := 0) (xs := []) (r := []) (fun _ => rfl) (sameP_ok [] [] (by decide) (by decide) (by decide) (by decide)))
  rcases Nat.lt_or_ge 65536 s.length with h | h
  · rw [rdP_big h]; exact h0
  · obtain ⟨v, e, n, g, _, ⟨_, l, rfl, h1, h2, _⟩ | ⟨_, _, rfl⟩⟩ := rdP_forms h
    · rw [g]
      have := sameP_ok l l (Nat.le_trans h1 (by decide)) (Nat.le_trans h1 (by decide)) (pcksB_n h2) (pcksB_n h2)
      rwa [decide_eq_true rfl] at this
    · rw [g]; exact h0
theorem bookReads_ok (s : Bs) : Pure Tryz.prog 4 [.str (sB s)] (.bool true) := by
  refine Pure.start (N := 90) Tryz.func4 rfl rfl (Nat.le_of_ble_eq_true rfl) ?_
  refine AWp.seq ?_
  refine AWp.region ?_
  refine AList.c 2 rfl rfl rfl (OpJ.assign rfl rfl) ?_
  refine AList.nil ?_
  refine AWp.seq ?_
  refine AWp.seq ?_
  refine AWp.region ?_
  refine AList.c 15 rfl rfl rfl (OpJ.move rfl rfl) ?_
  refine AList.c 16 rfl rfl rfl (OpJ.lenStr rfl rfl un9) ?_
  refine AList.c 17 rfl rfl rfl (OpJ.gtr rfl rfl rfl) ?_
  refine AList.c 18 rfl rfl rfl (OpJ.move rfl rfl) ?_
  refine AList.g 19 18 rfl rfl rfl rfl rfl rfl rfl [(0, _)] (fun h => And.intro (.inl rfl) (trivial)) (fun h => (OpJ.move rfl rfl)) ?_
  refine AList.g 20 18 rfl rfl rfl rfl rfl rfl rfl [(19, _)] (fun h => And.intro (.inr ⟨_, rfl, h⟩) (trivial)) (fun h => (OpJ.lenStr rfl rfl un9)) ?_
  refine AList.g 21 18 rfl rfl rfl rfl rfl rfl rfl [(20, _)] (fun h => And.intro (.inr ⟨_, rfl, h⟩) (trivial)) (fun h => (OpJ.leq rfl rfl rfl)) ?_
  refine AList.c 22 rfl rfl rfl (OpJ.and_ rfl rfl rfl ?_) ?_
  · first | (intro h; rw [h]; rfl) | (intro h; simp_all)
  refine AList.c 23 rfl rfl rfl (OpJ.move rfl rfl) ?_
  refine AList.g 24 23 rfl rfl rfl rfl rfl rfl rfl [(0, _)] (fun h => And.intro (.inl rfl) (trivial)) (fun h => (OpJ.move rfl rfl)) ?_
  refine AList.g 25 23 rfl rfl rfl rfl rfl rfl rfl [(24, _)] (fun h => And.intro (.inr ⟨_, rfl, h⟩) (trivial)) (fun h => (OpJ.lenStr rfl rfl un9)) ?_
  refine AList.g 26 23 rfl rfl rfl rfl rfl rfl rfl [(25, _)] (fun h => And.intro (.inr ⟨_, rfl, h⟩) (trivial)) (fun h => (OpJ.gtr rfl rfl rfl)) ?_
  refine AList.c 27 rfl rfl rfl (OpJ.or_ rfl rfl rfl ?_) ?_
  · first | (intro h; rw [h]; rfl) | (intro h; simp_all)
  refine AList.nil ?_
  refine AWp.cond _ rfl (fun hc0 => ?_) (fun hc0 => ?_)
  · skip
    refine AWp.seq ?_
    refine AWp.region ?_
    refine AList.c 28 rfl rfl rfl (OpJ.callP (alive_ok) rfl rfl rfl rfl rf6) ?_
    refine AList.c 2 rfl rfl rfl (OpJ.assign rfl rfl) ?_
    refine AList.nil ?_
    refine AWp.ret ?_
    exact Fin.oneE rfl rfl rfl
  · skip
    refine AWp.skip ?_
    refine AWp.seq ?_
    refine AWp.region ?_
    refine AList.c 30 rfl rfl rfl (OpJ.move rfl rfl) ?_
    refine AList.c 31 rfl rfl rfl (OpJ.callP (readReports_ok s) rfl rfl rfl rfl rf13) ?_
    refine AList.c 29 rfl rfl rfl (OpJ.move rfl rfl) ?_
    refine AList.c 32 rfl rfl rfl (OpJ.extract rfl rfl rfl) ?_
    refine AList.c 33 rfl rfl rfl (OpJ.extract rfl rfl rfl) ?_
    refine AList.c 3 rfl rfl rfl (OpJ.assign rfl rfl) ?_
    refine AList.c 4 rfl rfl rfl (OpJ.assign rfl rfl) ?_
    refine AList.nil ?_
    refine AWp.seq ?_
    refine AWp.region ?_
    refine AList.c 35 rfl rfl rfl (OpJ.move rfl rfl) ?_
    refine AList.c 36 rfl rfl rfl (OpJ.callP (rreadR_ok s) rfl rfl rfl rfl rf14) ?_
    refine AList.c 34 rfl rfl rfl (OpJ.move rfl rfl) ?_
    refine AList.c 37 rfl rfl rfl (OpJ.extract rfl rfl rfl) ?_
    refine AList.c 38 rfl rfl rfl (OpJ.extract rfl rfl rfl) ?_
    refine AList.c 5 rfl rfl rfl (OpJ.assign rfl rfl) ?_
    refine AList.c 6 rfl rfl rfl (OpJ.assign rfl rfl) ?_
    refine AList.nil ?_
    refine AWp.seq ?_
    refine AWp.region ?_
    refine AList.c 40 rfl rfl rfl (OpJ.move rfl rfl) ?_
    refine AList.c 41 rfl rfl rfl (OpJ.callP (readCards_ok s) rfl rfl rfl rfl rf15) ?_
    refine AList.c 39 rfl rfl rfl (OpJ.move rfl rfl) ?_
    refine AList.c 42 rfl rfl rfl (OpJ.extract rfl rfl rfl) ?_
    refine AList.c 43 rfl rfl rfl (OpJ.extract rfl rfl rfl) ?_
    refine AList.c 7 rfl rfl rfl (OpJ.assign rfl rfl) ?_
    refine AList.c 8 rfl rfl rfl (OpJ.assign rfl rfl) ?_
    refine AList.nil ?_
    refine AWp.seq ?_
    refine AWp.region ?_
    refine AList.c 45 rfl rfl rfl (OpJ.move rfl rfl) ?_
    refine AList.c 46 rfl rfl rfl (OpJ.callP (rreadC_ok s) rfl rfl rfl rfl rf16) ?_
    refine AList.c 44 rfl rfl rfl (OpJ.move rfl rfl) ?_
    refine AList.c 47 rfl rfl rfl (OpJ.extract rfl rfl rfl) ?_
    refine AList.c 48 rfl rfl rfl (OpJ.extract rfl rfl rfl) ?_
    refine AList.c 9 rfl rfl rfl (OpJ.assign rfl rfl) ?_
    refine AList.c 10 rfl rfl rfl (OpJ.assign rfl rfl) ?_
    refine AList.nil ?_
    refine AWp.seq ?_
    refine AWp.region ?_
    refine AList.c 50 rfl rfl rfl (OpJ.move rfl rfl) ?_
    refine AList.c 51 rfl rfl rfl (OpJ.callP (readPacks_ok s) rfl rfl rfl rfl rf17) ?_
    refine AList.c 49 rfl rfl rfl (OpJ.move rfl rfl) ?_
    refine AList.c 52 rfl rfl rfl (OpJ.extract rfl rfl rfl) ?_
    refine AList.c 53 rfl rfl rfl (OpJ.extract rfl rfl rfl) ?_
    refine AList.c 11 rfl rfl rfl (OpJ.assign rfl rfl) ?_
    refine AList.c 12 rfl rfl rfl (OpJ.assign rfl rfl) ?_
    refine AList.nil ?_
    refine AWp.seq ?_
    refine AWp.region ?_
    refine AList.c 55 rfl rfl rfl (OpJ.move rfl rfl) ?_
    refine AList.c 56 rfl rfl rfl (OpJ.callP (rreadP_ok s) rfl rfl rfl rfl rf18) ?_
    refine AList.c 54 rfl rfl rfl (OpJ.move rfl rfl) ?_
    refine AList.c 57 rfl rfl rfl (OpJ.extract rfl rfl rfl) ?_
    refine AList.c 58 rfl rfl rfl (OpJ.extract rfl rfl rfl) ?_
    refine AList.c 13 rfl rfl rfl (OpJ.assign rfl rfl) ?_
    refine AList.c 14 rfl rfl rfl (OpJ.assign rfl rfl) ?_
    refine AList.nil ?_
    refine AWp.seq ?_
    refine AWp.region ?_
    refine AList.c 59 rfl rfl rfl (OpJ.move rfl rfl) ?_
    refine AList.c 60 rfl rfl rfl (OpJ.move rfl rfl) ?_
    refine AList.c 61 rfl rfl rfl (OpJ.callP (sameR_self s) rfl rfl rfl rfl rf19) ?_
    refine AList.c 62 rfl rfl rfl (OpJ.move rfl rfl) ?_
    refine AList.g 63 62 rfl rfl rfl rfl rfl rfl rfl [(4, _)] (fun h => And.intro (.inl rfl) (trivial)) (fun h => (OpJ.move rfl rfl)) ?_
    refine AList.g 64 62 rfl rfl rfl rfl rfl rfl rfl [(6, _)] (fun h => And.intro (.inl rfl) (trivial)) (fun h => (OpJ.move rfl rfl)) ?_
    refine AList.g 65 62 rfl rfl rfl rfl rfl rfl rfl [(63, _), (64, _)] (fun h => And.intro (.inr ⟨_, rfl, h⟩) (And.intro (.inr ⟨_, rfl, h⟩) (trivial))) (fun h => (OpJ.eql rfl rfl rfl)) ?_
    refine AList.c 66 rfl rfl rfl (OpJ.and_ rfl rfl rfl ?_) ?_
    · first | (intro h; rw [h]; rfl) | (intro h; simp_all)
    refine AList.c 67 rfl rfl rfl (OpJ.move rfl rfl) ?_
    refine AList.g 68 67 rfl rfl rfl rfl rfl rfl rfl [(7, _)] (fun h => And.intro (.inl rfl) (trivial)) (fun h => (OpJ.move rfl rfl)) ?_
    refine AList.g 69 67 rfl rfl rfl rfl rfl rfl rfl [(9, _)] (fun h => And.intro (.inl rfl) (trivial)) (fun h => (OpJ.move rfl rfl)) ?_
    refine AList.g 70 67 rfl rfl rfl rfl rfl rfl rfl [(68, _), (69, _)] (fun h => And.intro (.inr ⟨_, rfl, h⟩) (And.intro (.inr ⟨_, rfl, h⟩) (trivial))) (fun h => (OpJ.callP (sameC_self s) rfl rfl rfl rfl rf20)) ?_
    refine AList.c 71 rfl rfl rfl (OpJ.and_ rfl rfl rfl ?_) ?_
    · first | (intro h; rw [h]; rfl) | (intro h; simp_all)
    refine AList.c 72 rfl rfl rfl (OpJ.move rfl rfl) ?_
    refine AList.g 73 72 rfl rfl rfl rfl rfl rfl rfl [(8, _)] (fun h => And.intro (.inl rfl) (trivial)) (fun h => (OpJ.move rfl rfl)) ?_
    refine AList.g 74 72 rfl rfl rfl rfl rfl rfl rfl [(10, _)] (fun h => And.intro (.inl rfl) (trivial)) (fun h => (OpJ.move rfl rfl)) ?_
    refine AList.g 75 72 rfl rfl rfl rfl rfl rfl rfl [(73, _), (74, _)] (fun h => And.intro (.inr ⟨_, rfl, h⟩) (And.intro (.inr ⟨_, rfl, h⟩) (trivial))) (fun h => (OpJ.eql rfl rfl rfl)) ?_
    refine AList.c 76 rfl rfl rfl (OpJ.and_ rfl rfl rfl ?_) ?_
    · first | (intro h; rw [h]; rfl) | (intro h; simp_all)
    refine AList.c 77 rfl rfl rfl (OpJ.move rfl rfl) ?_
    refine AList.g 78 77 rfl rfl rfl rfl rfl rfl rfl [(11, _)] (fun h => And.intro (.inl rfl) (trivial)) (fun h => (OpJ.move rfl rfl)) ?_
    refine AList.g 79 77 rfl rfl rfl rfl rfl rfl rfl [(13, _)] (fun h => And.intro (.inl rfl) (trivial)) (fun h => (OpJ.move rfl rfl)) ?_
    refine AList.g 80 77 rfl rfl rfl rfl rfl rfl rfl [(78, _), (79, _)] (fun h => And.intro (.inr ⟨_, rfl, h⟩) (And.intro (.inr ⟨_, rfl, h⟩) (trivial))) (fun h => (OpJ.callP (sameP_self s) rfl rfl rfl rfl rf21)) ?_
    refine AList.c 81 rfl rfl rfl (OpJ.and_ rfl rfl rfl ?_) ?_
    · first | (intro h; rw [h]; rfl) | (intro h; simp_all)
    refine AList.c 82 rfl rfl rfl (OpJ.move rfl rfl) ?_
    refine AList.g 83 82 rfl rfl rfl rfl rfl rfl rfl [(12, _)] (fun h => And.intro (.inl rfl) (trivial)) (fun h => (OpJ.move rfl rfl)) ?_
    refine AList.g 84 82 rfl rfl rfl rfl rfl rfl rfl [(14, _)] (fun h => And.intro (.inl rfl) (trivial)) (fun h => (OpJ.move rfl rfl)) ?_
    refine AList.g 85 82 rfl rfl rfl rfl rfl rfl rfl [(83, _), (84, _)] (fun h => And.intro (.inr ⟨_, rfl, h⟩) (And.intro (.inr ⟨_, rfl, h⟩) (trivial))) (fun h => (OpJ.eql rfl rfl rfl)) ?_
    refine AList.c 86 rfl rfl rfl (OpJ.and_ rfl rfl rfl ?_) ?_
    · first | (intro h; rw [h]; rfl) | (intro h; simp_all)
    refine AList.c 87 rfl rfl rfl (OpJ.move rfl rfl) ?_
    refine AList.g 88 87 rfl rfl rfl rfl rfl rfl rfl [] (fun h => trivial) (fun h => (OpJ.callP (alive_ok) rfl rfl rfl rfl rf6)) ?_
    refine AList.c 89 rfl rfl rfl (OpJ.and_ rfl rfl rfl ?_) ?_
    · first | (intro h; rw [h]; rfl) | (intro h; simp_all)
    refine AList.c 2 rfl rfl rfl (OpJ.assign rfl rfl) ?_
    refine AList.nil ?_
    refine AWp.ret ?_
    refine Fin.oneE rfl rfl ?_
    simp
theorem bookReads_law {x0 : List PV} (h0 : TyL [.leaf .string] x0) : Pure Tryz.prog 4 [argP false x0] (.bool true) := by
  obtain ⟨s, rfl⟩ := str_of h0
  exact bookReads_ok s
end Go.Proofs.YtcmkdegeljjalaaGreatDoor
end
