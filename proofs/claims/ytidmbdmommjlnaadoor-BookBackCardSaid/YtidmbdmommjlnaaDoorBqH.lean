/-
  Chapter 14: more facts on types and functions, by the kernel.
  The law on what is read, and written again.
-/
import Derived.Test.YtidmbdmommjlnaaDoorBqF
import Derived.Test.YtidmbdmommjlnaaDoorFaC
import Derived.Test.YtidmbdmommjlnaaDoorBqG
import Derived.Test.YtidmbdmommjlnaaDoorBqQ
section
set_option maxRecDepth 100000
namespace Go.Proofs.YtidmbdmommjlnaaDoor
open Go.AF
theorem el53 : elI Tryd.prog 53 = some 1 := by kernel_rfl
theorem sl53 : isSl Tryd.prog 53 = true := by kernel_rfl
theorem slz53 : slI Tryd.prog 53 = some (9, [.str ⟨#[]⟩]) := by kernel_rfl
end Go.Proofs.YtidmbdmommjlnaaDoor
end

section
set_option linter.unusedVariables false
set_option maxRecDepth 100000
set_option maxHeartbeats 4000000
set_option linter.unusedSimpArgs false
namespace Go.Proofs.YtidmbdmommjlnaaDoor
open Go.AF
def strC (s : Bs) : List PV := [.str (sB s)]
theorem readReports_eq {s : Bs} {v : PV} {e : Int} (h : opR s = (v, e)) : Pure Tryd.prog 13 [.str (sB s)] (.tuple [v, .int .i64 e]) := by
  have h2 := readReports_ok s
  rwa [h] at h2
theorem readPacks_eq {s : Bs} {v : PV} {e : Int} (h : rdP s = (v, e)) : Pure Tryd.prog 17 [.str (sB s)] (.tuple [v, .int .i64 e]) := by
  have h2 := readPacks_ok s
  rwa [h] at h2
theorem writeReports_eq {l : List Rpt} (hl : l.length ≤ bigN) (hs : ∀ r ∈ l, r.strokes.length ≤ bigN) {s : Bs} {e : Int} (h : wrR l = (s, e)) : Pure Tryd.prog 10 [rptsV l] (.tuple [.str (sB s), .int .i64 e]) := by
  have h2 := writeReports_ok l hl hs
  rwa [h] at h2
theorem writePacks_eq {l : List Pck} (hl : l.length ≤ bigN) (hs : ∀ p ∈ l, p.colours.length ≤ bigN) {s : Bs} {e : Int} (h : wrP l = (s, e)) : Pure Tryd.prog 12 [pcksV l] (.tuple [.str (sB s), .int .i64 e]) := by
  have h2 := writePacks_ok l hl hs
  rwa [h] at h2
theorem bookJust_ok (s : Bs) (m : UInt8) : Pure Tryd.prog 4 [.str (sB s), .int .u8 (m.toNat : Int)] (.bool true) := by
  refine Pure.start (N := 158) Tryd.func4 rfl rfl (Nat.le_of_ble_eq_true rfl) ?_
  refine AWp.seq ?_
  refine AWp.region ?_
  refine AList.c 4 rfl rfl rfl (OpJ.assign rfl rfl) ?_
  refine AList.nil ?_
  refine AWp.seq ?_
  refine AWp.seq ?_
  refine AWp.region ?_
  refine AList.c 23 rfl rfl rfl (OpJ.move rfl rfl) ?_
  refine AList.c 24 rfl rfl rfl (OpJ.lenStr rfl rfl un9) ?_
  refine AList.c 25 rfl rfl rfl (OpJ.gtr rfl rfl rfl) ?_
  refine AList.nil ?_
  refine AWp.cond _ rfl (fun hc0 => ?_) (fun hc0 => ?_)
  · skip
    refine AWp.seq ?_
    refine AWp.region ?_
    refine AList.c 26 rfl rfl rfl (OpJ.callP (alive_ok) rfl rfl rfl rfl rf9) ?_
    refine AList.c 4 rfl rfl rfl (OpJ.assign rfl rfl) ?_
    refine AList.nil ?_
    refine AWp.ret ?_
    exact Fin.oneE rfl rfl rfl
  · skip
    refine AWp.skip ?_
    refine AWp.seq ?_
    have hs : s.length ≤ 4000 := by have h := of_decide_eq_false hc0; rw [sB_size] at h; omega
    obtain ⟨v1, e1, n1, g1, a1, f1⟩ := opR_forms (s := s) (by omega)
    obtain ⟨v2, e2, n2, g2, a2, f2⟩ := rdC_forms (s := s) (by omega)
    obtain ⟨v3, e3, n3, g3, a3, f3⟩ := rdP_forms (s := s) (by omega)
    refine AWp.region ?_
    refine AList.c 28 rfl rfl rfl (OpJ.move rfl rfl) ?_
    refine AList.c 29 rfl rfl rfl (OpJ.callP (readReports_eq g1) rfl rfl rfl rfl rf13) ?_
    refine AList.c 27 rfl rfl rfl (OpJ.move rfl rfl) ?_
    refine AList.c 30 rfl rfl rfl (OpJ.extract rfl rfl rfl) ?_
    refine AList.c 31 rfl rfl rfl (OpJ.extract rfl rfl rfl) ?_
    refine AList.c 5 rfl rfl rfl (OpJ.assign rfl rfl) ?_
    refine AList.c 6 rfl rfl rfl (OpJ.assign rfl rfl) ?_
    refine AList.nil ?_
    refine AWp.seq ?_
    refine AWp.region ?_
    refine AList.c 33 rfl rfl rfl (OpJ.move rfl rfl) ?_
    refine AList.c 34 rfl rfl rfl (OpJ.callP (readCards_eq g2) rfl rfl rfl rfl rf15) ?_
    refine AList.c 32 rfl rfl rfl (OpJ.move rfl rfl) ?_
    refine AList.c 35 rfl rfl rfl (OpJ.extract rfl rfl rfl) ?_
    refine AList.c 36 rfl rfl rfl (OpJ.extract rfl rfl rfl) ?_
    refine AList.c 7 rfl rfl rfl (OpJ.assign rfl rfl) ?_
    refine AList.c 8 rfl rfl rfl (OpJ.assign rfl rfl) ?_
    refine AList.nil ?_
    refine AWp.seq ?_
    refine AWp.region ?_
    refine AList.c 38 rfl rfl rfl (OpJ.move rfl rfl) ?_
    refine AList.c 39 rfl rfl rfl (OpJ.callP (readPacks_eq g3) rfl rfl rfl rfl rf17) ?_
    refine AList.c 37 rfl rfl rfl (OpJ.move rfl rfl) ?_
    refine AList.c 40 rfl rfl rfl (OpJ.extract rfl rfl rfl) ?_
    refine AList.c 41 rfl rfl rfl (OpJ.extract rfl rfl rfl) ?_
    refine AList.c 9 rfl rfl rfl (OpJ.assign rfl rfl) ?_
    refine AList.c 10 rfl rfl rfl (OpJ.assign rfl rfl) ?_
    refine AList.nil ?_
    refine AWp.join (fun (g : Unit) => [(0, .p (.str (sB s))), (1, .p (.int .u8 (m.toNat : Int))), (5, .p v1), (6, .p (.int .i64 e1)), (7, .p v2), (8, .p (.int .i64 e2)), (9, .p v3), (10, .p (.int .i64 e3))]) (fun (g : Unit) => []) (fun (g : Unit) => True) ?_ (fun g hg => ?_)
    · skip
      refine AWp.seq ?_
      refine AWp.region ?_
      refine AList.c 42 rfl rfl rfl (OpJ.move rfl rfl) ?_
      refine AList.c 43 rfl rfl rfl (OpJ.eql rfl rfl rfl) ?_
      refine AList.nil ?_
      refine AWp.cond _ rfl (fun hc1 => ?_) (fun hc1 => ?_)
      · skip
        have hz : e1 = 0 := by simpa using hc1
        obtain ⟨_, l, rfl, hl, hv, he, hw⟩ | ⟨h8, _, _⟩ := f1
        rotate_left
        · exfalso; omega
        subst hz
        refine AWp.seq ?_
        refine AWp.region ?_
        refine AList.c 45 rfl rfl rfl (OpJ.move rfl rfl) ?_
        refine AList.c 46 rfl rfl rfl (OpJ.callP (writeReports_eq (Nat.le_trans hl (by decide)) (rptsB_n hv) hw) rfl rfl rfl rfl rf10) ?_
        refine AList.c 44 rfl rfl rfl (OpJ.move rfl rfl) ?_
        refine AList.c 47 rfl rfl rfl (OpJ.extract rfl rfl rfl) ?_
        refine AList.c 48 rfl rfl rfl (OpJ.extract rfl rfl rfl) ?_
        refine AList.c 11 rfl rfl rfl (OpJ.assign rfl rfl) ?_
        refine AList.c 12 rfl rfl rfl (OpJ.assign rfl rfl) ?_
        refine AList.nil ?_
        refine AWp.seq ?_
        refine AWp.region ?_
        refine AList.c 49 rfl rfl rfl (OpJ.move rfl rfl) ?_
        refine AList.c 50 rfl rfl rfl (OpJ.move rfl rfl) ?_
        refine AList.c 51 rfl rfl rfl (OpJ.strNe s s rfl rfl rfl) ?_
        refine AList.c 52 rfl rfl rfl (OpJ.move rfl rfl) ?_
        refine AList.g 53 52 rfl rfl rfl rfl rfl rfl rfl [(12, _)] (fun h => And.intro (.inl rfl) (trivial)) (fun h => (OpJ.move rfl rfl)) ?_
        refine AList.g 54 52 rfl rfl rfl rfl rfl rfl rfl [(53, _)] (fun h => And.intro (.inr ⟨_, rfl, h⟩) (trivial)) (fun h => (OpJ.neq rfl rfl rfl)) ?_
        refine AList.c 55 rfl rfl rfl (OpJ.or_ rfl rfl rfl ?_) ?_
        · first | (intro h; rw [h]; rfl) | (intro h; simp_all)
        refine AList.nil ?_
        refine AWp.cond _ rfl (fun hc2 => ?_) (fun hc2 => ?_)
        · skip
          exfalso
          simp at hc2
        · skip
          refine AWp.skip ?_
          exact ⟨(), trivial, To.sub (by repeat (first | exact Sub.nil | refine Sub.cons rfl ?_))⟩
      · skip
        refine AWp.skip ?_
        exact ⟨(), trivial, To.sub (by repeat (first | exact Sub.nil | refine Sub.cons rfl ?_))⟩
    · skip
      refine AWp.join (fun (g : Unit) => [(0, .p (.str (sB s))), (1, .p (.int .u8 (m.toNat : Int))), (5, .p v1), (6, .p (.int .i64 e1)), (7, .p v2), (8, .p (.int .i64 e2)), (9, .p v3), (10, .p (.int .i64 e3))]) (fun (g : Unit) => []) (fun (g : Unit) => True) ?_ (fun g hg => ?_)
      · skip
        refine AWp.seq ?_
        refine AWp.region ?_
        refine AList.c 56 rfl rfl rfl (OpJ.move rfl rfl) ?_
        refine AList.c 57 rfl rfl rfl (OpJ.eql rfl rfl rfl) ?_
        refine AList.nil ?_
        refine AWp.cond _ rfl (fun hc3 => ?_) (fun hc3 => ?_)
        · skip
          have hz : e2 = 0 := by simpa using hc3
          obtain ⟨_, l, rfl, hl, hv, he, hw⟩ | ⟨h8, _, _⟩ := f2
          rotate_left
          · exfalso; omega
          subst hz
          refine AWp.seq ?_
          refine AWp.region ?_
          refine AList.c 59 rfl rfl rfl (OpJ.move rfl rfl) ?_
          refine AList.c 60 rfl rfl rfl (OpJ.callP (writeCards_eq (Nat.le_trans hl (by decide)) hw) rfl rfl rfl rfl rf11) ?_
          refine AList.c 58 rfl rfl rfl (OpJ.move rfl rfl) ?_
          refine AList.c 61 rfl rfl rfl (OpJ.extract rfl rfl rfl) ?_
          refine AList.c 62 rfl rfl rfl (OpJ.extract rfl rfl rfl) ?_
          refine AList.c 13 rfl rfl rfl (OpJ.assign rfl rfl) ?_
          refine AList.c 14 rfl rfl rfl (OpJ.assign rfl rfl) ?_
          refine AList.nil ?_
          refine AWp.seq ?_
          refine AWp.region ?_
          refine AList.c 63 rfl rfl rfl (OpJ.move rfl rfl) ?_
          refine AList.c 64 rfl rfl rfl (OpJ.move rfl rfl) ?_
          refine AList.c 65 rfl rfl rfl (OpJ.strNe s s rfl rfl rfl) ?_
          refine AList.c 66 rfl rfl rfl (OpJ.move rfl rfl) ?_
          refine AList.g 67 66 rfl rfl rfl rfl rfl rfl rfl [(14, _)] (fun h => And.intro (.inl rfl) (trivial)) (fun h => (OpJ.move rfl rfl)) ?_
          refine AList.g 68 66 rfl rfl rfl rfl rfl rfl rfl [(67, _)] (fun h => And.intro (.inr ⟨_, rfl, h⟩) (trivial)) (fun h => (OpJ.neq rfl rfl rfl)) ?_
          refine AList.c 69 rfl rfl rfl (OpJ.or_ rfl rfl rfl ?_) ?_
          · first | (intro h; rw [h]; rfl) | (intro h; simp_all)
          refine AList.nil ?_
          refine AWp.cond _ rfl (fun hc4 => ?_) (fun hc4 => ?_)
          · skip
            exfalso
            simp at hc4
          · skip
            refine AWp.skip ?_
            exact ⟨(), trivial, To.sub (by repeat (first | exact Sub.nil | refine Sub.cons rfl ?_))⟩
        · skip
          refine AWp.skip ?_
          exact ⟨(), trivial, To.sub (by repeat (first | exact Sub.nil | refine Sub.cons rfl ?_))⟩
      · skip
        refine AWp.join (fun (g : Unit) => [(0, .p (.str (sB s))), (1, .p (.int .u8 (m.toNat : Int))), (5, .p v1), (6, .p (.int .i64 e1)), (7, .p v2), (8, .p (.int .i64 e2)), (9, .p v3), (10, .p (.int .i64 e3))]) (fun (g : Unit) => []) (fun (g : Unit) => True) ?_ (fun g hg => ?_)
        · skip
          refine AWp.seq ?_
          refine AWp.region ?_
          refine AList.c 70 rfl rfl rfl (OpJ.move rfl rfl) ?_
          refine AList.c 71 rfl rfl rfl (OpJ.eql rfl rfl rfl) ?_
          refine AList.nil ?_
          refine AWp.cond _ rfl (fun hc5 => ?_) (fun hc5 => ?_)
          · skip
            have hz : e3 = 0 := by simpa using hc5
            obtain ⟨_, l, rfl, hl, hv, he, hw⟩ | ⟨h8, _, _⟩ := f3
            rotate_left
            · exfalso; omega
            subst hz
            refine AWp.seq ?_
            refine AWp.region ?_
            refine AList.c 73 rfl rfl rfl (OpJ.move rfl rfl) ?_
            refine AList.c 74 rfl rfl rfl (OpJ.callP (writePacks_eq (Nat.le_trans hl (by decide)) (pcksB_n hv) hw) rfl rfl rfl rfl rf12) ?_
            refine AList.c 72 rfl rfl rfl (OpJ.move rfl rfl) ?_
            refine AList.c 75 rfl rfl rfl (OpJ.extract rfl rfl rfl) ?_
            refine AList.c 76 rfl rfl rfl (OpJ.extract rfl rfl rfl) ?_
            refine AList.c 15 rfl rfl rfl (OpJ.assign rfl rfl) ?_
            refine AList.c 16 rfl rfl rfl (OpJ.assign rfl rfl) ?_
            refine AList.nil ?_
            refine AWp.seq ?_
            refine AWp.region ?_
            refine AList.c 77 rfl rfl rfl (OpJ.move rfl rfl) ?_
            refine AList.c 78 rfl rfl rfl (OpJ.move rfl rfl) ?_
            refine AList.c 79 rfl rfl rfl (OpJ.strNe s s rfl rfl rfl) ?_
            refine AList.c 80 rfl rfl rfl (OpJ.move rfl rfl) ?_
            refine AList.g 81 80 rfl rfl rfl rfl rfl rfl rfl [(16, _)] (fun h => And.intro (.inl rfl) (trivial)) (fun h => (OpJ.move rfl rfl)) ?_
            refine AList.g 82 80 rfl rfl rfl rfl rfl rfl rfl [(81, _)] (fun h => And.intro (.inr ⟨_, rfl, h⟩) (trivial)) (fun h => (OpJ.neq rfl rfl rfl)) ?_
            refine AList.c 83 rfl rfl rfl (OpJ.or_ rfl rfl rfl ?_) ?_
            · first | (intro h; rw [h]; rfl) | (intro h; simp_all)
            refine AList.nil ?_
            refine AWp.cond _ rfl (fun hc6 => ?_) (fun hc6 => ?_)
            · skip
              exfalso
              simp at hc6
            · skip
              refine AWp.skip ?_
              exact ⟨(), trivial, To.sub (by repeat (first | exact Sub.nil | refine Sub.cons rfl ?_))⟩
          · skip
            refine AWp.skip ?_
            exact ⟨(), trivial, To.sub (by repeat (first | exact Sub.nil | refine Sub.cons rfl ?_))⟩
        · skip
          refine AWp.seq ?_
          refine AWp.seq ?_
          refine AWp.region ?_
          refine AList.c 84 rfl rfl rfl (OpJ.move rfl rfl) ?_
          refine AList.c 85 rfl rfl rfl (OpJ.neq rfl rfl rfl) ?_
          refine AList.c 86 rfl rfl rfl (OpJ.move rfl rfl) ?_
          refine AList.g 87 86 rfl rfl rfl rfl rfl rfl rfl [(5, _)] (fun h => And.intro (.inl rfl) (trivial)) (fun h => (OpJ.move rfl rfl)) ?_
          refine AList.g 88 86 rfl rfl rfl rfl rfl rfl rfl [(87, _)] (fun h => And.intro (.inr ⟨_, rfl, h⟩) (trivial)) (fun h => (OpJ.lenSlice rfl rfl sl22 a1)) ?_
          refine AList.g 89 86 rfl rfl rfl rfl rfl rfl rfl [(88, _)] (fun h => And.intro (.inr ⟨_, rfl, h⟩) (trivial)) (fun h => (OpJ.neq rfl rfl rfl)) ?_
          refine AList.c 90 rfl rfl rfl (OpJ.and_ rfl rfl rfl ?_) ?_
          · first | (intro h; rw [h]; rfl) | (intro h; simp_all)
          refine AList.c 91 rfl rfl rfl (OpJ.move rfl rfl) ?_
          refine AList.g 92 91 rfl rfl rfl rfl rfl rfl rfl [(8, _)] (fun h => And.intro (.inl rfl) (trivial)) (fun h => (OpJ.move rfl rfl)) ?_
          refine AList.g 93 91 rfl rfl rfl rfl rfl rfl rfl [(92, _)] (fun h => And.intro (.inr ⟨_, rfl, h⟩) (trivial)) (fun h => (OpJ.neq rfl rfl rfl)) ?_
          refine AList.g 94 91 rfl rfl rfl rfl rfl rfl rfl [(93, _)] (fun h => And.intro (.inr ⟨_, rfl, h⟩) (trivial)) (fun h => (OpJ.move rfl rfl)) ?_
          refine AList.g 95 94 rfl rfl rfl rfl rfl rfl rfl [(7, _)] (fun h => And.intro (.inl rfl) (trivial)) (fun h => (OpJ.move rfl rfl)) ?_
          refine AList.g 96 94 rfl rfl rfl rfl rfl rfl rfl [(95, _)] (fun h => And.intro (.inr ⟨_, rfl, h⟩) (trivial)) (fun h => (OpJ.lenSlice rfl rfl sl23 a2)) ?_
          refine AList.g 97 94 rfl rfl rfl rfl rfl rfl rfl [(96, _)] (fun h => And.intro (.inr ⟨_, rfl, h⟩) (trivial)) (fun h => (OpJ.neq rfl rfl rfl)) ?_
          refine AList.g 98 91 rfl rfl rfl rfl rfl rfl rfl [(94, _), (97, _)] (fun h => And.intro (.inr ⟨_, rfl, h⟩) (And.intro (.inl rfl) (trivial))) (fun h => (OpJ.and_ rfl rfl rfl ?_)) ?_
          · first | (intro h; rw [h]; rfl) | (intro h; simp_all)
          refine AList.c 99 rfl rfl rfl (OpJ.or_ rfl rfl rfl ?_) ?_
          · first | (intro h; rw [h]; rfl) | (intro h; simp_all)
          refine AList.c 100 rfl rfl rfl (OpJ.move rfl rfl) ?_
          refine AList.g 101 100 rfl rfl rfl rfl rfl rfl rfl [(10, _)] (fun h => And.intro (.inl rfl) (trivial)) (fun h => (OpJ.move rfl rfl)) ?_
          refine AList.g 102 100 rfl rfl rfl rfl rfl rfl rfl [(101, _)] (fun h => And.intro (.inr ⟨_, rfl, h⟩) (trivial)) (fun h => (OpJ.neq rfl rfl rfl)) ?_
          refine AList.g 103 100 rfl rfl rfl rfl rfl rfl rfl [(102, _)] (fun h => And.intro (.inr ⟨_, rfl, h⟩) (trivial)) (fun h => (OpJ.move rfl rfl)) ?_
          refine AList.g 104 103 rfl rfl rfl rfl rfl rfl rfl [(9, _)] (fun h => And.intro (.inl rfl) (trivial)) (fun h => (OpJ.move rfl rfl)) ?_
          refine AList.g 105 103 rfl rfl rfl rfl rfl rfl rfl [(104, _)] (fun h => And.intro (.inr ⟨_, rfl, h⟩) (trivial)) (fun h => (OpJ.lenSlice rfl rfl sl24 a3)) ?_
          refine AList.g 106 103 rfl rfl rfl rfl rfl rfl rfl [(105, _)] (fun h => And.intro (.inr ⟨_, rfl, h⟩) (trivial)) (fun h => (OpJ.neq rfl rfl rfl)) ?_
          refine AList.g 107 100 rfl rfl rfl rfl rfl rfl rfl [(103, _), (106, _)] (fun h => And.intro (.inr ⟨_, rfl, h⟩) (And.intro (.inl rfl) (trivial))) (fun h => (OpJ.and_ rfl rfl rfl ?_)) ?_
          · first | (intro h; rw [h]; rfl) | (intro h; simp_all)
          refine AList.c 108 rfl rfl rfl (OpJ.or_ rfl rfl rfl ?_) ?_
          · first | (intro h; rw [h]; rfl) | (intro h; simp_all)
          refine AList.nil ?_
          refine AWp.cond _ rfl (fun hc7 => ?_) (fun hc7 => ?_)
          · skip
            exfalso
            rcases f1 with ⟨z1, _⟩ | ⟨z1, y1, _⟩ <;> rcases f2 with ⟨z2, _⟩ | ⟨z2, y2, _⟩ <;> rcases f3 with ⟨z3, _⟩ | ⟨z3, y3, _⟩ <;> simp_all
          · skip
            refine AWp.skip ?_
            refine AWp.seq ?_
            refine AWp.seq ?_
            refine AWp.region ?_
            refine AList.c 109 rfl rfl rfl (OpJ.move rfl rfl) ?_
            refine AList.c 110 rfl rfl rfl (OpJ.strEq s [] rfl rfl rfl) ?_
            refine AList.c 111 rfl rfl rfl (OpJ.move rfl rfl) ?_
            refine AList.g 112 111 rfl rfl rfl rfl rfl rfl rfl [(1, _)] (fun h => And.intro (.inl rfl) (trivial)) (fun h => (OpJ.move rfl rfl)) ?_
            refine AList.g 113 111 rfl rfl rfl rfl rfl rfl rfl [(112, _)] (fun h => And.intro (.inr ⟨_, rfl, h⟩) (trivial)) (fun h => (OpJ.eql rfl rfl rfl)) ?_
            refine AList.c 114 rfl rfl rfl (OpJ.or_ rfl rfl rfl ?_) ?_
            · first | (intro h; rw [h]; rfl) | (intro h; simp_all)
            refine AList.nil ?_
            refine AWp.cond _ rfl (fun hc8 => ?_) (fun hc8 => ?_)
            · skip
              refine AWp.seq ?_
              refine AWp.region ?_
              refine AList.c 115 rfl rfl rfl (OpJ.callP (alive_ok) rfl rfl rfl rfl rf9) ?_
              refine AList.c 4 rfl rfl rfl (OpJ.assign rfl rfl) ?_
              refine AList.nil ?_
              refine AWp.ret ?_
              exact Fin.oneE rfl rfl rfl
            · skip
              refine AWp.skip ?_
              refine AWp.seq ?_
              refine AWp.seq ?_
              obtain ⟨hne, hm⟩ : s ≠ [] ∧ m ≠ 10 := by simp only [Bool.or_eq_false_iff, decide_eq_false_iff_not] at hc8; exact ⟨hc8.1, fun e => hc8.2 (by rw [e]; rfl)⟩
              have hs0 : 0 < s.length := List.length_pos_iff.2 hne
              obtain ⟨w1, w2, q1, q2, b1, b2⟩ := just_cut (m := m) hs hne hm f1 f3
              obtain ⟨w3, w4, q3, q4, b3, b4⟩ := just_more hs hm
              refine AWp.regionDraw 13 mixed (by kernel_rfl) (by decide) ?_
              refine AQuiet.cons 116 rfl rfl rfl (OpJ.move rfl rfl) ?_
              refine AQuiet.cons 117 rfl rfl rfl (OpJ.move rfl rfl) ?_
              refine AQuiet.cons 118 rfl rfl rfl (OpJ.lenStr rfl rfl un9) ?_
              refine AQuiet.cons 119 rfl rfl rfl (OpJ.sub_ (m := ((s.length - 1 : Nat) : Int)) rfl rfl rfl ((i64ok ?_).trans ?_)) ?_
              · rw [sB_size]; omega
              · rw [sB_size]; omega
              refine AQuiet.cons 120 rfl rfl rfl (OpJ.strCut s 0 (s.length - 1) rfl rfl st9 rfl ⟨_, rfl⟩ (by omega) (by omega)) ?_
              refine AQuiet.cons 121 rfl rfl rfl (OpJ.move rfl rfl) ?_
              refine AQuiet.cons 122 rfl rfl rfl (OpJ.move rfl rfl) ?_
              refine AQuiet.cons 123 rfl rfl rfl (OpJ.buildImm rfl slz52 (by decide) rfl rfl rfl) ?_
              refine AQuiet.cons 124 rfl rfl rfl (OpJ.bytesStr [m] rfl rfl bt52 st9) ?_
              refine AQuiet.cons 125 rfl rfl rfl (OpJ.strAdd _ _ rfl rfl rfl ?_) ?_
              · simp only [List.length_append, List.length_take, List.length_drop, List.length_singleton]; omega
              refine AQuiet.cons 126 rfl rfl rfl (OpJ.buildImm rfl slz53 (by decide) rfl rfl rfl) ?_
              refine AQuiet.cons 127 rfl rfl rfl (OpJ.lenSlice rfl rfl sl53 rfl) ?_
              refine AQuiet.cons 128 rfl rfl rfl (OpJ.move rfl rfl) ?_
              refine AQuiet.nil ?_
              refine AList.nil ?_
              refine AWp.block ?_
              refine AWp.unroll 3 ?_
              refine ARounds.next ?_
              refine AWp.seq ?_
              refine AWp.region ?_
              refine AList.c 129 rfl rfl rfl (OpJ.lss rfl rfl rfl) ?_
              refine AList.nil ?_
              refine AWp.seq ?_
              refine AWp.condT rfl ?_
              refine AWp.skip ?_
              refine AWp.seq ?_
              refine AWp.block ?_
              refine AWp.seq ?_
              refine AWp.region ?_
              refine AList.c 130 rfl rfl rfl (OpJ.indexEl (k := 0) (xs := [(s.drop 0).take (s.length - 1 - 0), s ++ [m]]) (f := strC) rfl rfl rfl sl53 el53 rfl (fun _ => rfl) (by decide) (by show 0 < 2; decide)) ?_
              refine AList.c 131 rfl rfl rfl (OpJ.load (v := .p (.str (sB ((s.drop 0).take (s.length - 1 - 0))))) rfl rfl ty9 rfl) ?_
              refine AList.c 18 rfl rfl rfl (OpJ.assign rfl rfl) ?_
              refine AList.nil ?_
              refine AWp.seq ?_
              refine AWp.region ?_
              refine AList.c 133 rfl rfl rfl (OpJ.move rfl rfl) ?_
              refine AList.c 134 rfl rfl rfl (OpJ.callP (readReports_eq q1) rfl rfl rfl rfl rf13) ?_
              refine AList.c 132 rfl rfl rfl (OpJ.move rfl rfl) ?_
              refine AList.c 135 rfl rfl rfl (OpJ.extract rfl rfl rfl) ?_
              refine AList.c 136 rfl rfl rfl (OpJ.extract rfl rfl rfl) ?_
              refine AList.c 19 rfl rfl rfl (OpJ.assign rfl rfl) ?_
              refine AList.c 20 rfl rfl rfl (OpJ.assign rfl rfl) ?_
              refine AList.nil ?_
              refine AWp.seq ?_
              refine AWp.region ?_
              refine AList.c 138 rfl rfl rfl (OpJ.move rfl rfl) ?_
              refine AList.c 139 rfl rfl rfl (OpJ.callP (readPacks_eq q2) rfl rfl rfl rfl rf17) ?_
              refine AList.c 137 rfl rfl rfl (OpJ.move rfl rfl) ?_
              refine AList.c 140 rfl rfl rfl (OpJ.extract rfl rfl rfl) ?_
              refine AList.c 141 rfl rfl rfl (OpJ.extract rfl rfl rfl) ?_
              refine AList.c 21 rfl rfl rfl (OpJ.assign rfl rfl) ?_
              refine AList.c 22 rfl rfl rfl (OpJ.assign rfl rfl) ?_
              refine AList.nil ?_
              refine AWp.seq ?_
              refine AWp.region ?_
              refine AList.c 142 rfl rfl rfl (OpJ.move rfl rfl) ?_
              refine AList.c 143 rfl rfl rfl (OpJ.eql rfl rfl rfl) ?_
              refine AList.c 144 rfl rfl rfl (OpJ.move rfl rfl) ?_
              refine AList.g 145 144 rfl rfl rfl rfl rfl rfl rfl [(20, _)] (fun h => And.intro (.inl rfl) (trivial)) (fun h => (OpJ.move rfl rfl)) ?_
              refine AList.g 146 144 rfl rfl rfl rfl rfl rfl rfl [(145, _)] (fun h => And.intro (.inr ⟨_, rfl, h⟩) (trivial)) (fun h => (OpJ.neq rfl rfl rfl)) ?_
              refine AList.c 147 rfl rfl rfl (OpJ.and_ rfl rfl rfl ?_) ?_
              · first | (intro h; rw [h]; rfl) | (intro h; simp_all)
              refine AList.c 148 rfl rfl rfl (OpJ.move rfl rfl) ?_
              refine AList.g 149 148 rfl rfl rfl rfl rfl rfl rfl [(10, _)] (fun h => And.intro (.inl rfl) (trivial)) (fun h => (OpJ.move rfl rfl)) ?_
              refine AList.g 150 148 rfl rfl rfl rfl rfl rfl rfl [(149, _)] (fun h => And.intro (.inr ⟨_, rfl, h⟩) (trivial)) (fun h => (OpJ.eql rfl rfl rfl)) ?_
              refine AList.g 151 148 rfl rfl rfl rfl rfl rfl rfl [(150, _)] (fun h => And.intro (.inr ⟨_, rfl, h⟩) (trivial)) (fun h => (OpJ.move rfl rfl)) ?_
              refine AList.g 152 151 rfl rfl rfl rfl rfl rfl rfl [(22, _)] (fun h => And.intro (.inl rfl) (trivial)) (fun h => (OpJ.move rfl rfl)) ?_
              refine AList.g 153 151 rfl rfl rfl rfl rfl rfl rfl [(152, _)] (fun h => And.intro (.inr ⟨_, rfl, h⟩) (trivial)) (fun h => (OpJ.neq rfl rfl rfl)) ?_
              refine AList.g 154 148 rfl rfl rfl rfl rfl rfl rfl [(151, _), (153, _)] (fun h => And.intro (.inr ⟨_, rfl, h⟩) (And.intro (.inl rfl) (trivial))) (fun h => (OpJ.and_ rfl rfl rfl ?_)) ?_
              · first | (intro h; rw [h]; rfl) | (intro h; simp_all)
              refine AList.c 155 rfl rfl rfl (OpJ.or_ rfl rfl rfl ?_) ?_
              · first | (intro h; rw [h]; rfl) | (intro h; simp_all)
              refine AList.nil ?_
              refine AWp.cond _ rfl (fun hc10 => ?_) (fun hc10 => ?_)
              · skip
                exfalso
                simp at hc10
                rcases hc10 with ⟨h, k⟩ | ⟨h, k⟩
                · exact k (b1 h)
                · exact k (b2 h)
              · skip
                refine AWp.skip ?_
                refine AWp.region ?_
                refine AList.c 156 rfl rfl rfl (OpJ.add rfl rfl rfl (i64ok ?_)) ?_
                · decide
                refine AList.c 128 rfl rfl rfl (OpJ.move rfl rfl) ?_
                refine AList.nil ?_
                refine ARounds.next ?_
                refine AWp.seq ?_
                refine AWp.region ?_
                refine AList.c 129 rfl rfl rfl (OpJ.lss rfl rfl rfl) ?_
                refine AList.nil ?_
                refine AWp.seq ?_
                refine AWp.condT rfl ?_
                refine AWp.skip ?_
                refine AWp.seq ?_
                refine AWp.block ?_
                refine AWp.seq ?_
                refine AWp.region ?_
                refine AList.c 130 rfl rfl rfl (OpJ.indexEl (k := 1) (xs := [(s.drop 0).take (s.length - 1 - 0), s ++ [m]]) (f := strC) rfl rfl rfl sl53 el53 rfl (fun _ => rfl) (by decide) (by show 1 < 2; decide)) ?_
                refine AList.c 131 rfl rfl rfl (OpJ.load (v := .p (.str (sB (s ++ [m])))) rfl rfl ty9 rfl) ?_
                refine AList.c 18 rfl rfl rfl (OpJ.assign rfl rfl) ?_
                refine AList.nil ?_
                refine AWp.seq ?_
                refine AWp.region ?_
                refine AList.c 133 rfl rfl rfl (OpJ.move rfl rfl) ?_
                refine AList.c 134 rfl rfl rfl (OpJ.callP (readReports_eq q3) rfl rfl rfl rfl rf13) ?_
                refine AList.c 132 rfl rfl rfl (OpJ.move rfl rfl) ?_
                refine AList.c 135 rfl rfl rfl (OpJ.extract rfl rfl rfl) ?_
                refine AList.c 136 rfl rfl rfl (OpJ.extract rfl rfl rfl) ?_
                refine AList.c 19 rfl rfl rfl (OpJ.assign rfl rfl) ?_
                refine AList.c 20 rfl rfl rfl (OpJ.assign rfl rfl) ?_
                refine AList.nil ?_
                refine AWp.seq ?_
                refine AWp.region ?_
                refine AList.c 138 rfl rfl rfl (OpJ.move rfl rfl) ?_
                refine AList.c 139 rfl rfl rfl (OpJ.callP (readPacks_eq q4) rfl rfl rfl rfl rf17) ?_
                refine AList.c 137 rfl rfl rfl (OpJ.move rfl rfl) ?_
                refine AList.c 140 rfl rfl rfl (OpJ.extract rfl rfl rfl) ?_
                refine AList.c 141 rfl rfl rfl (OpJ.extract rfl rfl rfl) ?_
                refine AList.c 21 rfl rfl rfl (OpJ.assign rfl rfl) ?_
                refine AList.c 22 rfl rfl rfl (OpJ.assign rfl rfl) ?_
                refine AList.nil ?_
                refine AWp.seq ?_
                refine AWp.region ?_
                refine AList.c 142 rfl rfl rfl (OpJ.move rfl rfl) ?_
                refine AList.c 143 rfl rfl rfl (OpJ.eql rfl rfl rfl) ?_
                refine AList.c 144 rfl rfl rfl (OpJ.move rfl rfl) ?_
                refine AList.g 145 144 rfl rfl rfl rfl rfl rfl rfl [(20, _)] (fun h => And.intro (.inl rfl) (trivial)) (fun h => (OpJ.move rfl rfl)) ?_
                refine AList.g 146 144 rfl rfl rfl rfl rfl rfl rfl [(145, _)] (fun h => And.intro (.inr ⟨_, rfl, h⟩) (trivial)) (fun h => (OpJ.neq rfl rfl rfl)) ?_
                refine AList.c 147 rfl rfl rfl (OpJ.and_ rfl rfl rfl ?_) ?_
                · first | (intro h; rw [h]; rfl) | (intro h; simp_all)
                refine AList.c 148 rfl rfl rfl (OpJ.move rfl rfl) ?_
                refine AList.g 149 148 rfl rfl rfl rfl rfl rfl rfl [(10, _)] (fun h => And.intro (.inl rfl) (trivial)) (fun h => (OpJ.move rfl rfl)) ?_
                refine AList.g 150 148 rfl rfl rfl rfl rfl rfl rfl [(149, _)] (fun h => And.intro (.inr ⟨_, rfl, h⟩) (trivial)) (fun h => (OpJ.eql rfl rfl rfl)) ?_
                refine AList.g 151 148 rfl rfl rfl rfl rfl rfl rfl [(150, _)] (fun h => And.intro (.inr ⟨_, rfl, h⟩) (trivial)) (fun h => (OpJ.move rfl rfl)) ?_
                refine AList.g 152 151 rfl rfl rfl rfl rfl rfl rfl [(22, _)] (fun h => And.intro (.inl rfl) (trivial)) (fun h => (OpJ.move rfl rfl)) ?_
                refine AList.g 153 151 rfl rfl rfl rfl rfl rfl rfl [(152, _)] (fun h => And.intro (.inr ⟨_, rfl, h⟩) (trivial)) (fun h => (OpJ.neq rfl rfl rfl)) ?_
                refine AList.g 154 148 rfl rfl rfl rfl rfl rfl rfl [(151, _), (153, _)] (fun h => And.intro (.inr ⟨_, rfl, h⟩) (And.intro (.inl rfl) (trivial))) (fun h => (OpJ.and_ rfl rfl rfl ?_)) ?_
                · first | (intro h; rw [h]; rfl) | (intro h; simp_all)
                refine AList.c 155 rfl rfl rfl (OpJ.or_ rfl rfl rfl ?_) ?_
                · first | (intro h; rw [h]; rfl) | (intro h; simp_all)
                refine AList.nil ?_
                refine AWp.cond _ rfl (fun hc10 => ?_) (fun hc10 => ?_)
                · skip
                  exfalso
                  simp [b3, b4] at hc10
                · skip
                  refine AWp.skip ?_
                  refine AWp.region ?_
                  refine AList.c 156 rfl rfl rfl (OpJ.add rfl rfl rfl (i64ok ?_)) ?_
                  · decide
                  refine AList.c 128 rfl rfl rfl (OpJ.move rfl rfl) ?_
                  refine AList.nil ?_
                  refine ARounds.next ?_
                  refine AWp.seq ?_
                  refine AWp.region ?_
                  refine AList.c 129 rfl rfl rfl (OpJ.lss rfl rfl rfl) ?_
                  refine AList.nil ?_
                  refine AWp.seq ?_
                  refine AWp.condF rfl ?_
                  refine AWp.exit ?_
                  refine AWp.seq ?_
                  refine AWp.region ?_
                  refine AList.c 157 rfl rfl rfl (OpJ.callP (alive_ok) rfl rfl rfl rfl rf9) ?_
                  refine AList.c 4 rfl rfl rfl (OpJ.assign rfl rfl) ?_
                  refine AList.nil ?_
                  refine AWp.ret ?_
                  exact Fin.oneE rfl rfl rfl
theorem bookJust_law {x0 x1 : List PV} (h0 : TyL [.leaf .string] x0) (h1 : TyL [.leaf (.int .u8)] x1) : Pure Tryd.prog 4 [argP false x0, argP false x1] (.bool true) := by
  obtain ⟨s, rfl⟩ := str_of h0
  obtain ⟨m, rfl⟩ := u8_of h1
  exact bookJust_ok s m
end Go.Proofs.YtidmbdmommjlnaaDoor
end
