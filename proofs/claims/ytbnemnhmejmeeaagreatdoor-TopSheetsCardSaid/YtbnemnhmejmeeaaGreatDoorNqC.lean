/-
  What a reader takes.
  Spans, bytes and long numbers are taken.
  A slice is repeated.
  A report is read.
  Cards are read.
  A pack is read.
-/
import Derived.Test.YtbnemnhmejmeeaaGreatDoorNqB
import Derived.Test.YtbnemnhmejmeeaaGreatDoorNqP
import Derived.Test.YtbnemnhmejmeeaaGreatDoorFaE
section
set_option linter.unusedVariables false
set_option maxRecDepth 100000
set_option maxHeartbeats 4000000
set_option linter.unusedSimpArgs false
namespace Go.Proofs.YtbnemnhmejmeeaaGreatDoor.Bk
open Go.AF
theorem hasPrefix_ok (s p : Bs) : Pure Tryz.prog 145 [.str (sB s), .str (sB p)] (.bool (preB p s)) := by
  refine Pure.start (N := 18) Tryz.func145 rfl rfl (Nat.le_of_ble_eq_true rfl) ?_
  refine AWp.seq ?_
  refine AWp.region ?_
  refine AList.c 4 rfl rfl rfl (OpJ.assign rfl rfl) ?_
  refine AList.nil ?_
  refine AWp.seq ?_
  refine AWp.region ?_
  refine AList.c 5 rfl rfl rfl (OpJ.move rfl rfl) ?_
  refine AList.c 6 rfl rfl rfl (OpJ.lenStr rfl rfl un9) ?_
  refine AList.c 7 rfl rfl rfl (OpJ.move rfl rfl) ?_
  refine AList.c 8 rfl rfl rfl (OpJ.lenStr rfl rfl un9) ?_
  refine AList.c 9 rfl rfl rfl (OpJ.geq rfl rfl rfl) ?_
  refine AList.c 10 rfl rfl rfl (OpJ.move rfl rfl) ?_
  refine AList.g 11 10 rfl rfl rfl rfl rfl rfl rfl [(0, _)] (fun h => And.intro (.inl rfl) (trivial)) (fun h => (OpJ.move rfl rfl)) ?_
  refine AList.g 12 10 rfl rfl rfl rfl rfl rfl rfl [(1, _)] (fun h => And.intro (.inl rfl) (trivial)) (fun h => (OpJ.move rfl rfl)) ?_
  refine AList.g 13 10 rfl rfl rfl rfl rfl rfl rfl [(12, _)] (fun h => And.intro (.inr ⟨_, rfl, h⟩) (trivial)) (fun h => (OpJ.lenStr rfl rfl un9)) ?_
  refine AList.g 14 10 rfl rfl rfl rfl rfl rfl rfl [(11, _), (13, _)] (fun h => And.intro (.inr ⟨_, rfl, h⟩) (And.intro (.inr ⟨_, rfl, h⟩) (trivial))) (fun h => (OpJ.strCut s 0 p.length rfl rfl st9 rfl ⟨_, rfl⟩ (Nat.zero_le _) (by have h2 : ((s.length : Int) ≥ (p.length : Int)) := of_decide_eq_true (eq_of_beq h); omega))) ?_
  refine AList.g 15 10 rfl rfl rfl rfl rfl rfl rfl [(1, _)] (fun h => And.intro (.inl rfl) (trivial)) (fun h => (OpJ.move rfl rfl)) ?_
  refine AList.g 16 10 rfl rfl rfl rfl rfl rfl rfl [(14, _), (15, _)] (fun h => And.intro (.inr ⟨_, rfl, h⟩) (And.intro (.inr ⟨_, rfl, h⟩) (trivial))) (fun h => (OpJ.strEq _ _ rfl rfl rfl)) ?_
  refine AList.c 17 rfl rfl rfl (OpJ.and_ rfl rfl rfl ?_) ?_
  · first | (intro h; rw [h]; rfl) | (intro h; simp_all)
  refine AList.c 4 rfl rfl rfl (OpJ.assign rfl rfl) ?_
  refine AList.nil ?_
  refine AWp.ret ?_
  refine Fin.oneE rfl rfl ?_
  unfold preB
  rw [Bool.and_comm]
  congr 1
  congr 1
  exact decide_eq_decide.2 (by show (s.length : Int) ≥ (p.length : Int) ↔ _; omega)
theorem cutP_ok (s p : Bs) : Pure Tryz.prog 126 [.str (sB s), .str (sB p)] (.tuple [.str (sB (isP p s).2), .bool (isP p s).1]) := by
  refine Pure.start (N := 15) Tryz.func126 rfl rfl (Nat.le_of_ble_eq_true rfl) ?_
  refine AWp.seq ?_
  refine AWp.region ?_
  refine AList.c 4 rfl rfl rfl (OpJ.assign rfl rfl) ?_
  refine AList.c 5 rfl rfl rfl (OpJ.assign rfl rfl) ?_
  refine AList.nil ?_
  refine AWp.seq ?_
  refine AWp.seq ?_
  refine AWp.region ?_
  refine AList.c 6 rfl rfl rfl (OpJ.move rfl rfl) ?_
  refine AList.c 7 rfl rfl rfl (OpJ.move rfl rfl) ?_
  refine AList.c 8 rfl rfl rfl (OpJ.callP (hasPrefix_ok _ _) rfl rfl rfl rfl rf145) ?_
  refine AList.c 9 rfl rfl rfl (OpJ.not_ rfl rfl) ?_
  refine AList.nil ?_
  refine AWp.cond _ rfl (fun hc0 => ?_) (fun hc0 => ?_)
  · skip
    have hp : preB p s = false := by simpa using hc0
    refine AWp.seq ?_
    refine AWp.region ?_
    refine AList.c 10 rfl rfl rfl (OpJ.move rfl rfl) ?_
    refine AList.c 4 rfl rfl rfl (OpJ.assign rfl rfl) ?_
    refine AList.c 5 rfl rfl rfl (OpJ.assign rfl rfl) ?_
    refine AList.nil ?_
    refine AWp.ret ?_
    refine Fin.manyE (xs := [.str (sB s), .bool false]) rfl ⟨_, _, rfl, rfl, ⟨_, _, rfl, rfl, rfl⟩⟩ rfl ?_
    rw [isP_no hp]
  · skip
    have hp : preB p s = true := by simpa using hc0
    have hpl := (preB_iff.1 hp).2
    refine AWp.skip ?_
    refine AWp.seq ?_
    refine AWp.region ?_
    refine AList.c 11 rfl rfl rfl (OpJ.move rfl rfl) ?_
    refine AList.c 12 rfl rfl rfl (OpJ.move rfl rfl) ?_
    refine AList.c 13 rfl rfl rfl (OpJ.lenStr rfl rfl un9) ?_
    refine AList.c 14 rfl rfl rfl (OpJ.strCut s p.length s.length rfl rfl st9 ⟨_, rfl⟩ rfl (by omega) (Nat.le_refl _)) ?_
    refine AList.c 4 rfl rfl rfl (OpJ.assign rfl rfl) ?_
    refine AList.c 5 rfl rfl rfl (OpJ.assign rfl rfl) ?_
    refine AList.nil ?_
    refine AWp.ret ?_
    refine Fin.manyE (xs := [.str (sB ((s.drop p.length).take (s.length - p.length))), .bool true]) rfl ⟨_, _, rfl, rfl, ⟨_, _, rfl, rfl, rfl⟩⟩ rfl ?_
    rw [isP_yes hp, List.take_of_length_le (by rw [List.length_drop]; omega)]
theorem cut_ok (s p : Bs) : Pure Tryz.prog 101 [.str (sB s), .str (sB p)] (.tuple [.str (sB (isP p s).2), .bool (isP p s).1]) := by
  refine Pure.start (N := 11) Tryz.func101 rfl rfl (Nat.le_of_ble_eq_true rfl) ?_
  refine AWp.seq ?_
  refine AWp.region ?_
  refine AList.c 4 rfl rfl rfl (OpJ.assign rfl rfl) ?_
  refine AList.c 5 rfl rfl rfl (OpJ.assign rfl rfl) ?_
  refine AList.nil ?_
  refine AWp.seq ?_
  refine AWp.region ?_
  refine AList.c 6 rfl rfl rfl (OpJ.move rfl rfl) ?_
  refine AList.c 7 rfl rfl rfl (OpJ.move rfl rfl) ?_
  refine AList.c 8 rfl rfl rfl (OpJ.callP (cutP_ok _ _) rfl rfl rfl rfl rf126) ?_
  refine AList.c 9 rfl rfl rfl (OpJ.extract rfl rfl rfl) ?_
  refine AList.c 10 rfl rfl rfl (OpJ.extract rfl rfl rfl) ?_
  refine AList.c 4 rfl rfl rfl (OpJ.assign rfl rfl) ?_
  refine AList.c 5 rfl rfl rfl (OpJ.assign rfl rfl) ?_
  refine AList.nil ?_
  refine AWp.ret ?_
  exact Fin.many (xs := [.str (sB (isP p s).2), .bool (isP p s).1]) rfl ⟨_, _, rfl, rfl, ⟨_, _, rfl, rfl, rfl⟩⟩ rfl
theorem is_ok (s r : Bs) : ACallsR Tryz.prog 150 (.iface 147 (.agg [.int .i64 8])) 74 [.str (sB s)] (r) (some (.bool (isP s r).1, (isP s r).2)) := by
  refine ACallsP.start (N := 18) Tryz.func74 rfl rfl (Nat.le_of_ble_eq_true rfl) ?_
  refine AWp.seq ?_
  refine AWp.region ?_
  refine AList.c 4 rfl rfl rfl (OpJ.assign rfl rfl) ?_
  refine AList.nil ?_
  refine AWp.seq ?_
  refine AWp.region ?_
  refine AList.c 6 rfl rfl rfl (OpJ.move rfl rfl) ?_
  refine AList.c 7 rfl rfl rfl (OpJ.move rfl rfl) ?_
  refine AList.c 8 rfl rfl rfl (OpJ.nilCheck rfl rfl) ?_
  refine AList.c 9 rfl rfl rfl (OpJ.fieldAddr rfl rfl fd150_0 rfl) ?_
  refine AList.c 10 rfl rfl rfl (OpJ.load rfl rfl ty9 rfl) ?_
  refine AList.c 11 rfl rfl rfl (OpJ.move rfl rfl) ?_
  refine AList.c 12 rfl rfl rfl (OpJ.callP (cut_ok _ _) rfl rfl rfl rfl rf101) ?_
  refine AList.c 5 rfl rfl rfl (OpJ.move rfl rfl) ?_
  refine AList.c 13 rfl rfl rfl (OpJ.extract rfl rfl rfl) ?_
  refine AList.c 14 rfl rfl rfl (OpJ.extract rfl rfl rfl) ?_
  refine AList.c 15 rfl rfl rfl (OpJ.nilCheck rfl rfl) ?_
  refine AList.c 16 rfl rfl rfl (OpJ.fieldAddr rfl rfl fd150_0 rfl) ?_
  refine AList.c0 rfl rfl (OpJ.store rfl rfl rfl rfl rfl ty9 rfl rfl) ?_
  refine AList.c 4 rfl rfl rfl (OpJ.assign rfl rfl) ?_
  refine AList.nil ?_
  refine AWp.seq ?_
  refine AWp.region ?_
  refine AList.c 17 rfl rfl rfl (OpJ.move rfl rfl) ?_
  refine AList.c 4 rfl rfl rfl (OpJ.assign rfl rfl) ?_
  refine AList.nil ?_
  refine AWp.ret ?_
  exact FinOP.one rfl rfl ⟨_, _, rfl, rfl, rfl⟩
theorem fail_ok : AFail Tryz.prog 75 [.int .i64 8] (.iface 147 (.agg [.int .i64 8])) := by
  refine ACallsP.start (N := 5) Tryz.func75 rfl rfl (Nat.le_of_ble_eq_true rfl) ?_
  refine AWp.region ?_
  refine AList.c 2 rfl rfl rfl (OpJ.move rfl rfl) ?_
  refine AList.c 3 rfl rfl rfl (OpJ.build rfl bd147 rfl rfl) ?_
  refine AList.c 4 rfl rfl rfl (OpJ.makeIface rfl rfl con147) ?_
  refine AList.panic rfl rfl rfl ?_
  exact ⟨_, rfl, rfl⟩
theorem want_ok (s r : Bs) : ACallsR Tryz.prog 150 (.iface 147 (.agg [.int .i64 8])) 71 [.str (sB s)] (r) ((wantP s r).map fun x => (PV.tuple [], x)) := by
  refine ACallsP.start (N := 9) Tryz.func71 rfl rfl (Nat.le_of_ble_eq_true rfl) ?_
  refine AWp.seq ?_
  refine AWp.region ?_
  refine AList.c 4 rfl rfl rfl (OpJ.move rfl rfl) ?_
  refine AList.c 5 rfl rfl rfl (OpJ.move rfl rfl) ?_
  refine AList.callR 6 0 (is_ok s r) rfl rfl rfl rfl rfl rfl rfl rfl rf74 (fun h => by cases h) (fun q0 q1 hq => ?_)
  cases hq
  refine AList.c 7 rfl rfl rfl (OpJ.not_ rfl rfl) ?_
  refine AList.nil ?_
  refine AWp.cond _ rfl (fun hc0 => ?_) (fun hc0 => ?_)
  · skip
    have hno : ((wantP s r).map fun x => (PV.tuple [], x)) = none := by have h : preB s r = false := (by rw [← isP_1]; simpa using hc0); unfold wantP; rw [h]; rfl
    refine AWp.region ?_
    refine AList.callFail 8 (fail_ok) rfl rfl rfl rfl rfl rfl rfl rf75 ⟨_, rfl, hno, rfl⟩
  · skip
    have hp : preB s r = true := by rw [← isP_1]; simpa using hc0
    refine AWp.skip ?_
    exact ⟨.inl rfl, _, resV.none_ rfl, _, _, by unfold wantP; rw [hp]; rfl, rfl, by rw [isP_yes hp]; rfl⟩
theorem number_ok (r : Bs) : ACallsR Tryz.prog 150 (.iface 147 (.agg [.int .i64 8])) 72 [] (r) ((numP r).map fun x => (PV.int .i64 x.1, x.2)) := by
  refine ACallsP.start (N := 73) Tryz.func72 rfl rfl (Nat.le_of_ble_eq_true rfl) ?_
  have hdl := digN_le r
  refine AWp.seq ?_
  refine AWp.region ?_
  refine AList.c 2 rfl rfl rfl (OpJ.assign rfl rfl) ?_
  refine AList.nil ?_
  refine AWp.seq ?_
  refine AWp.region ?_
  refine AList.c 9 rfl rfl rfl (OpJ.move rfl rfl) ?_
  refine AList.c 10 rfl rfl rfl (OpJ.nilCheck rfl rfl) ?_
  refine AList.c 11 rfl rfl rfl (OpJ.fieldAddr rfl rfl fd150_0 rfl) ?_
  refine AList.c 12 rfl rfl rfl (OpJ.load rfl rfl ty9 rfl) ?_
  refine AList.c 13 rfl rfl rfl (OpJ.lenStr rfl rfl un9) ?_
  refine AList.c 3 rfl rfl rfl (OpJ.assign rfl rfl) ?_
  refine AList.nil ?_
  refine AWp.join (fun (g : Unit) => [(0, .ptr 0 0), (2, .p (.int .i64 0)), (3, .p (.int .i64 ((digN r : Nat) : Int)))]) (fun (g : Unit) => [(rB 150 (r))]) (fun (g : Unit) => True) ?_ (fun g hg => ?_)
  · skip
    refine AWp.seq ?_
    refine AWp.region ?_
    refine AList.c 14 rfl rfl rfl (OpJ.move rfl rfl) ?_
    refine AList.c 15 rfl rfl rfl (OpJ.nilCheck rfl rfl) ?_
    refine AList.c 16 rfl rfl rfl (OpJ.fieldAddr rfl rfl fd150_0 rfl) ?_
    refine AList.c 17 rfl rfl rfl (OpJ.load rfl rfl ty9 rfl) ?_
    refine AList.c 18 rfl rfl rfl (OpJ.rangeStr _ rfl rfl st9) ?_
    refine AList.nil ?_
    refine AWp.block ?_
    refine AWp.loopHL [0, 2, 6, 8, 18, 30, 31, 32, 33, 34, 35, 36, 37, 38, 39, 40, 41, 42, 43, 44, 45, 46, 47, 48, 49, 50, 52, 53, 54, 55, 56, 57, 58, 59, 60, 61, 62, 63, 64, 65, 66, 67, 68, 69, 70, 71, 72] (fun g => [(3, .p (.int .i64 ((r.length : Nat) : Int)))]) (fun g => [(rB 150 (r)), .strIter (sB r) g]) (fun g => g ≤ r.length ∧ ∀ j, j < g → ∃ b, r[j]? = some b ∧ digB b = true) (fun g => r.length - g) 0 ⟨Nat.zero_le _, fun j hj => absurd hj (by omega)⟩ (To.sub (Sub.chk (Sub.cons rfl (Sub.nil)))) (fun i ⟨hg1, hg2⟩ => ?_)
    refine AWp.seq ?_
    refine AWp.region ?_
    refine AList.nextStr 19 r rfl rfl rfl rfl rfl rfl (fun hov => ?_) (fun b c wd hb hlo hhi hwd => ?_)
    · skip
      have hd : digN r = r.length := digN_char r r.length (fun j hj => hg2 j (by omega)) (fun b hb => by rw [List.getElem?_eq_none (Nat.le_refl _)] at hb; cases hb)
      refine AList.c 20 rfl rfl rfl (OpJ.extract rfl rfl rfl) ?_
      refine AList.nil ?_
      refine AWp.seq ?_
      refine AWp.cond _ rfl (fun hc0 => ?_) (fun hc0 => ?_)
      · skip
        cases hc0
      · skip
        refine AWp.exit ?_
        exact ⟨(), trivial, To.done [0] rfl (Sub.cons rfl (Sub.cons rfl (Sub.cons (by rw [hd]; rfl) Sub.nil))) rfl⟩
    · skip
      have hil := (List.getElem?_eq_some_iff.1 hb).1
      refine AList.c 20 rfl rfl rfl (OpJ.extract rfl rfl rfl) ?_
      refine AList.nil ?_
      refine AWp.seq ?_
      refine AWp.cond _ rfl (fun hc0 => ?_) (fun hc0 => ?_)
      · skip
        refine AWp.skip ?_
        refine AWp.block ?_
        refine AWp.seq ?_
        refine AWp.region ?_
        refine AList.c 21 rfl rfl rfl (OpJ.extract rfl rfl rfl) ?_
        refine AList.c 22 rfl rfl rfl (OpJ.extract rfl rfl rfl) ?_
        refine AList.c 4 rfl rfl rfl (OpJ.assign rfl rfl) ?_
        refine AList.c 5 rfl rfl rfl (OpJ.assign rfl rfl) ?_
        refine AList.nil ?_
        refine AWp.seq ?_
        refine AWp.region ?_
        refine AList.c 23 rfl rfl rfl (OpJ.move rfl rfl) ?_
        refine AList.c 24 rfl rfl rfl (OpJ.lss rfl rfl rfl) ?_
        refine AList.c 25 rfl rfl rfl (OpJ.move rfl rfl) ?_
        refine AList.g 26 25 rfl rfl rfl rfl rfl rfl rfl [(5, _)] (fun h => And.intro (.inl rfl) (trivial)) (fun h => (OpJ.move rfl rfl)) ?_
        refine AList.g 27 25 rfl rfl rfl rfl rfl rfl rfl [(26, _)] (fun h => And.intro (.inr ⟨_, rfl, h⟩) (trivial)) (fun h => (OpJ.gtr rfl rfl rfl)) ?_
        refine AList.c 28 rfl rfl rfl (OpJ.or_ rfl rfl rfl ?_) ?_
        · first | (intro h; rw [h]; rfl) | (intro h; simp_all)
        refine AList.nil ?_
        refine AWp.cond _ rfl (fun hc1 => ?_) (fun hc1 => ?_)
        · skip
          have hd : digN r = i := digN_char r i hg2 (fun b2 hb2 => by rw [hb] at hb2; cases hb2; exact num_c hc1 hlo hhi)
          refine AWp.seq ?_
          refine AWp.region ?_
          refine AList.c 29 rfl rfl rfl (OpJ.move rfl rfl) ?_
          refine AList.c 3 rfl rfl rfl (OpJ.assign rfl rfl) ?_
          refine AList.nil ?_
          refine AWp.exit ?_
          exact ⟨(), trivial, To.done [0] rfl (Sub.cons rfl (Sub.cons rfl (Sub.cons (by rw [hd]; rfl) Sub.nil))) rfl⟩
        · skip
          obtain ⟨hdb, rfl, rfl⟩ := num_cn hc1 hlo hhi
          refine AWp.skip ?_
          refine ⟨i + 1, ?_, ?_, ?_⟩
          · refine ⟨by omega, fun j hj => ?_⟩
            rcases Nat.lt_succ_iff_lt_or_eq.1 hj with h | rfl
            · exact hg2 j h
            · exact ⟨b, hb, hdb⟩
          · omega
          exact To.done [0, 1] rfl (by repeat (first | exact Sub.nil | refine Sub.cons rfl ?_)) rfl
      · skip
        cases hc0
  · skip
    refine AWp.seq ?_
    refine AWp.region ?_
    refine AList.c 30 rfl rfl rfl (OpJ.move rfl rfl) ?_
    refine AList.c 31 rfl rfl rfl (OpJ.nilCheck rfl rfl) ?_
    refine AList.c 32 rfl rfl rfl (OpJ.fieldAddr rfl rfl fd150_0 rfl) ?_
    refine AList.c 33 rfl rfl rfl (OpJ.load rfl rfl ty9 rfl) ?_
    refine AList.c 34 rfl rfl rfl (OpJ.move rfl rfl) ?_
    refine AList.c 35 rfl rfl rfl (OpJ.strCut r 0 (digN r) rfl rfl st9 rfl ⟨_, rfl⟩ (Nat.zero_le _) hdl) ?_
    refine AList.c 6 rfl rfl rfl (OpJ.assign rfl rfl) ?_
    refine AList.nil ?_
    refine AWp.seq ?_
    refine AWp.seq ?_
    refine AWp.region ?_
    refine AList.c 36 rfl rfl rfl (OpJ.move rfl rfl) ?_
    refine AList.c 37 rfl rfl rfl (OpJ.eql rfl rfl rfl) ?_
    refine AList.c 38 rfl rfl rfl (OpJ.move rfl rfl) ?_
    refine AList.g 39 38 rfl rfl rfl rfl rfl rfl rfl [(3, _)] (fun h => And.intro (.inl rfl) (trivial)) (fun h => (OpJ.move rfl rfl)) ?_
    refine AList.g 40 38 rfl rfl rfl rfl rfl rfl rfl [(39, _)] (fun h => And.intro (.inr ⟨_, rfl, h⟩) (trivial)) (fun h => (OpJ.gtr rfl rfl rfl)) ?_
    refine AList.c 41 rfl rfl rfl (OpJ.or_ rfl rfl rfl ?_) ?_
    · first | (intro h; rw [h]; rfl) | (intro h; simp_all)
    refine AList.c 42 rfl rfl rfl (OpJ.move rfl rfl) ?_
    refine AList.g 43 42 rfl rfl rfl rfl rfl rfl rfl [(3, _)] (fun h => And.intro (.inl rfl) (trivial)) (fun h => (OpJ.move rfl rfl)) ?_
    refine AList.g 44 42 rfl rfl rfl rfl rfl rfl rfl [(43, _)] (fun h => And.intro (.inr ⟨_, rfl, h⟩) (trivial)) (fun h => (OpJ.gtr rfl rfl rfl)) ?_
    refine AList.g 45 42 rfl rfl rfl rfl rfl rfl rfl [(44, _)] (fun h => And.intro (.inr ⟨_, rfl, h⟩) (trivial)) (fun h => (OpJ.move rfl rfl)) ?_
    refine AList.g 46 45 rfl rfl rfl rfl rfl rfl rfl [(6, _)] (fun h => And.intro (.inl rfl) (trivial)) (fun h => (OpJ.move rfl rfl)) ?_
    refine AList.g 47 45 rfl rfl rfl rfl rfl rfl rfl [(46, _)] (fun h => And.intro (.inr ⟨_, rfl, h⟩) (trivial)) (fun h => (OpJ.strIx (r.take (digN r)) 0 (gt 0 r 0) rfl rfl rfl st9 (num_at0 (by have h2 := h; simp at h2; omega)))) ?_
    refine AList.g 48 45 rfl rfl rfl rfl rfl rfl rfl [(47, _)] (fun h => And.intro (.inr ⟨_, rfl, h⟩) (trivial)) (fun h => (OpJ.eql rfl rfl rfl)) ?_
    refine AList.g 49 42 rfl rfl rfl rfl rfl rfl rfl [(45, _), (48, _)] (fun h => And.intro (.inr ⟨_, rfl, h⟩) (And.intro (.inl rfl) (trivial))) (fun h => (OpJ.and_ rfl rfl rfl (fun hq => by simp_all))) ?_
    refine AList.c 50 rfl rfl rfl (OpJ.or_ rfl rfl rfl ?_) ?_
    · first | (intro h; rw [h]; rfl) | (intro h; simp_all)
    refine AList.nil ?_
    refine AWp.cond _ rfl (fun hc2 => ?_) (fun hc2 => ?_)
    · skip
      have hno : ((numP r).map fun x => (PV.int .i64 x.1, x.2)) = none := by rw [num_none (numBad_of hc2)]; rfl
      refine AWp.region ?_
      refine AList.callFail 51 (fail_ok) rfl rfl rfl rfl rfl rfl rfl rf75 ⟨_, rfl, hno, rfl⟩
    · skip
      have hok := numBad_of hc2
      have h9 : digN r ≤ 9 := by unfold numBad at hok; simp at hok; omega
      refine AWp.skip ?_
      refine AWp.seq ?_
      refine AWp.seq ?_
      refine AWp.region ?_
      refine AList.c 52 rfl rfl rfl (OpJ.move rfl rfl) ?_
      refine AList.c 53 rfl rfl rfl (OpJ.rangeStr _ rfl rfl st9) ?_
      refine AList.nil ?_
      refine AWp.block ?_
      refine AWp.loopHL [0, 3, 53, 63, 64, 65, 66, 67, 68, 69, 70, 71, 72] (fun g => [(2, .p (.int .i64 ((valD (r.take g) : Nat) : Int)))]) (fun g => [(rB 150 (r)), .strIter (sB (r.take (digN r))) g]) (fun g => g ≤ digN r) (fun g => digN r - g) 0 (Nat.zero_le _) (To.sub (Sub.chk (Sub.cons rfl (Sub.nil)))) (fun i hg => ?_)
      refine AWp.seq ?_
      refine AWp.region ?_
      refine AList.nextStr 54 (r.take (digN r)) rfl rfl rfl rfl rfl rfl (fun hov => ?_) (fun b c wd hb hlo hhi hwd => ?_)
      · skip
        have hi2 : i = digN r := by rw [List.length_take] at hov; omega
        refine AList.c 55 rfl rfl rfl (OpJ.extract rfl rfl rfl) ?_
        refine AList.nil ?_
        refine AWp.seq ?_
        refine AWp.cond _ rfl (fun hc3 => ?_) (fun hc3 => ?_)
        · skip
          cases hc3
        · skip
          refine AWp.exit ?_
          refine AWp.seq ?_
          refine AWp.region ?_
          refine AList.c 63 rfl rfl rfl (OpJ.move rfl rfl) ?_
          refine AList.c 64 rfl rfl rfl (OpJ.move rfl rfl) ?_
          refine AList.c 65 rfl rfl rfl (OpJ.nilCheck rfl rfl) ?_
          refine AList.c 66 rfl rfl rfl (OpJ.fieldAddr rfl rfl fd150_0 rfl) ?_
          refine AList.c 67 rfl rfl rfl (OpJ.load rfl rfl ty9 rfl) ?_
          refine AList.c 68 rfl rfl rfl (OpJ.move rfl rfl) ?_
          refine AList.c 69 rfl rfl rfl (OpJ.strCut r (digN r) r.length rfl rfl st9 ⟨_, rfl⟩ rfl hdl (Nat.le_refl _)) ?_
          refine AList.c 70 rfl rfl rfl (OpJ.nilCheck rfl rfl) ?_
          refine AList.c 71 rfl rfl rfl (OpJ.fieldAddr rfl rfl fd150_0 rfl) ?_
          refine AList.c0 rfl rfl (OpJ.store rfl rfl rfl rfl rfl ty9 rfl rfl) ?_
          refine AList.nil ?_
          refine AWp.seq ?_
          refine AWp.region ?_
          refine AList.c 72 rfl rfl rfl (OpJ.move rfl rfl) ?_
          refine AList.c 2 rfl rfl rfl (OpJ.assign rfl rfl) ?_
          refine AList.nil ?_
          refine AWp.norm [0] [(2, _)] [(rB 150 ((r.drop (digN r))))] rfl (by repeat (first | exact Sub.nil | refine Sub.cons rfl ?_)) (by show [Blk.cells [.p (.str (sB ((r.drop (digN r)).take (r.length - digN r))))] _] = _; rw [List.take_of_length_le (by rw [List.length_drop]; omega)]; rfl) ?_
          refine AWp.ret ?_
          exact FinOP.one rfl rfl ⟨_, _, by rw [num_some hok]; rfl, by rw [hi2]; rfl, rfl⟩
      · skip
        have hil := (List.getElem?_eq_some_iff.1 hb).1
        have hil2 : i < digN r := by rw [List.length_take] at hil; omega
        obtain ⟨b3, hb3, hdb⟩ := digN_at r i hil2
        have hbr : r[i]? = some b := by rw [List.getElem?_take_of_lt hil2] at hb; exact hb
        rw [hbr] at hb3
        cases hb3
        simp only [digB, Bool.and_eq_true, decide_eq_true_eq] at hdb
        obtain ⟨rfl, rfl⟩ := hlo (by omega)
        have hv := val_lt (show i + 1 ≤ digN r by omega) h9
        have hvs := val_step hbr
        have hv0 := val_lt (show i ≤ digN r by omega) h9
        refine AList.c 55 rfl rfl rfl (OpJ.extract rfl rfl rfl) ?_
        refine AList.nil ?_
        refine AWp.seq ?_
        refine AWp.cond _ rfl (fun hc3 => ?_) (fun hc3 => ?_)
        · skip
          refine AWp.skip ?_
          refine AWp.block ?_
          refine AWp.seq ?_
          refine AWp.region ?_
          refine AList.c 56 rfl rfl rfl (OpJ.extract rfl rfl rfl) ?_
          refine AList.c 8 rfl rfl rfl (OpJ.assign rfl rfl) ?_
          refine AList.nil ?_
          refine AWp.region ?_
          refine AList.c 57 rfl rfl rfl (OpJ.move rfl rfl) ?_
          refine AList.c 58 rfl rfl rfl (OpJ.mul (m := ((10 * valD (r.take i) : Nat) : Int)) rfl rfl rfl ((i64ok ?_).trans ?_)) ?_
          · omega
          · omega
          refine AList.c 59 rfl rfl rfl (OpJ.move rfl rfl) ?_
          refine AList.c 60 rfl rfl rfl (OpJ.sub_ (m := ((b.toNat - 48 : Nat) : Int)) rfl rfl rfl ((i32ok ?_).trans ?_)) ?_
          · omega
          · omega
          refine AList.c 61 rfl rfl rfl (OpJ.convInt rfl rfl (by rw [un21]; rfl) un3 (i64ok ?_)) ?_
          · omega
          refine AList.c 62 rfl rfl rfl (OpJ.add (m := ((valD (r.take (i + 1)) : Nat) : Int)) rfl rfl rfl ((i64ok ?_).trans ?_)) ?_
          · omega
          · omega
          refine AList.c 2 rfl rfl rfl (OpJ.assign rfl rfl) ?_
          refine AList.nil ?_
          refine ⟨i + 1, ?_, ?_, ?_⟩
          · omega
          · omega
          exact To.done [0, 1] rfl (by repeat (first | exact Sub.nil | refine Sub.cons rfl ?_)) rfl
        · skip
          cases hc3
end Go.Proofs.YtbnemnhmejmeeaaGreatDoor.Bk
end

section
set_option linter.unusedVariables false
set_option maxRecDepth 100000
set_option maxHeartbeats 4000000
set_option linter.unusedSimpArgs false
namespace Go.Proofs.YtbnemnhmejmeeaaGreatDoor.Bk
open Go.AF
theorem span_ok (r : Bs) : ACallsR Tryz.prog 150 (.iface 147 (.agg [.int .i64 8])) 73 [] (r) ((spanP r).map fun x => (PV.agg x.1.cells, x.2)) := by
  refine ACallsP.start (N := 22) Tryz.func73 rfl rfl (Nat.le_of_ble_eq_true rfl) ?_
  refine AWp.seq ?_
  refine AWp.region ?_
  refine AList.c 2 rfl rfl rfl (OpJ.allocOwn rfl zr30 rfl) ?_
  refine AList.nil ?_
  refine AWp.seq ?_
  refine AWp.region ?_
  refine AList.c 4 rfl rfl rfl (OpJ.move rfl rfl) ?_
  refine AList.callR 5 0 (number_ok r) rfl rfl rfl rfl rfl rfl rfl rfl rf72 (fun h => ⟨_, rfl, (by have h2 := Option.map_eq_none_iff.1 h; unfold spanP; rw [h2]; rfl), rfl⟩) (fun q0 q1 hq => ?_)
  obtain ⟨⟨lo, r1⟩, hn1, hq2⟩ := Option.map_eq_some_iff.1 hq
  cases hq2
  refine AList.c 6 rfl rfl rfl (OpJ.build rfl bd30 rfl rfl) ?_
  refine AList.c 3 rfl rfl rfl (OpJ.allocOwn rfl zr30 rfl) ?_
  refine AList.c0 rfl rfl (OpJ.store rfl rfl rfl rfl rfl ty30 rfl rfl) ?_
  refine AList.nil ?_
  refine AWp.seq ?_
  refine AWp.region ?_
  refine AList.c 7 rfl rfl rfl (OpJ.fieldAddr rfl rfl fd30_0 rfl) ?_
  refine AList.c 8 rfl rfl rfl (OpJ.load (v := .p (.int .i64 lo)) rfl rfl ty3 rfl) ?_
  refine AList.c 9 rfl rfl rfl (OpJ.fieldAddr rfl rfl fd30_1 rfl) ?_
  refine AList.c0 rfl rfl (OpJ.store rfl rfl rfl rfl rfl ty3 rfl rfl) ?_
  refine AList.nil ?_
  refine AWp.seq ?_
  refine AWp.seq ?_
  refine AWp.region ?_
  refine AList.c 10 rfl rfl rfl (OpJ.move rfl rfl) ?_
  refine AList.callR 11 0 (is_ok [46, 46] r1) rfl rfl rfl rfl rfl rfl rfl rfl rf74 (fun h => by cases h) (fun q0 q1 hq => ?_)
  cases hq
  refine AList.nil ?_
  refine AWp.cond _ rfl (fun hc0 => ?_) (fun hc0 => ?_)
  · skip
    have hp : preB [46, 46] r1 = true := by rw [← isP_1]; exact hc0
    refine AWp.seq ?_
    refine AWp.region ?_
    refine AList.c 12 rfl rfl rfl (OpJ.move rfl rfl) ?_
    refine AList.callR 13 0 (number_ok (isP [46, 46] r1).2) rfl rfl rfl rfl rfl rfl rfl rfl rf72 (fun h => ⟨_, rfl, (by have h2 := Option.map_eq_none_iff.1 h; rw [isP_yes hp] at h2; unfold spanP; rw [hn1]; simp only [hp, if_true]; rw [show numP (r1.drop 2) = none from h2]; rfl), rfl⟩) (fun q0 q1 hq => ?_)
    obtain ⟨⟨hi, r2⟩, hn2, hq2⟩ := Option.map_eq_some_iff.1 hq
    cases hq2
    rw [isP_yes hp] at hn2
    refine AList.c 14 rfl rfl rfl (OpJ.fieldAddr rfl rfl fd30_1 rfl) ?_
    refine AList.c0 rfl rfl (OpJ.store rfl rfl rfl rfl rfl ty3 rfl rfl) ?_
    refine AList.nil ?_
    refine AWp.seq ?_
    refine AWp.region ?_
    refine AList.c 15 rfl rfl rfl (OpJ.fieldAddr rfl rfl fd30_1 rfl) ?_
    refine AList.c 16 rfl rfl rfl (OpJ.load (v := .p (.int .i64 hi)) rfl rfl ty3 rfl) ?_
    refine AList.c 17 rfl rfl rfl (OpJ.fieldAddr rfl rfl fd30_0 rfl) ?_
    refine AList.c 18 rfl rfl rfl (OpJ.load (v := .p (.int .i64 lo)) rfl rfl ty3 rfl) ?_
    refine AList.c 19 rfl rfl rfl (OpJ.eql rfl rfl rfl) ?_
    refine AList.nil ?_
    refine AWp.cond _ rfl (fun hc1 => ?_) (fun hc1 => ?_)
    · skip
      have hno : ((spanP r).map fun x => (PV.agg x.1.cells, x.2)) = none := by have he := of_decide_eq_true hc1; unfold spanP; rw [hn1]; simp only [hp, if_true]; rw [show numP (r1.drop 2) = some (hi, r2) from hn2]; simp only [he, if_true]; rfl
      refine AWp.region ?_
      refine AList.callFail 20 (fail_ok) rfl rfl rfl rfl rfl rfl rfl rf75 ⟨_, rfl, hno, rfl⟩
    · skip
      have hsome : ((spanP r).map fun x => (PV.agg x.1.cells, x.2)) = some (.agg [.int .i64 lo, .int .i64 hi], r2) := by have he := of_decide_eq_false hc1; unfold spanP; rw [hn1]; simp only [hp, if_true]; rw [show numP (r1.drop 2) = some (hi, r2) from hn2]; simp only [if_neg he]; rfl
      refine AWp.skip ?_
      refine AWp.seq ?_
      refine AWp.region ?_
      refine AList.c 21 rfl rfl rfl (OpJ.load (v := .p (.agg [.int .i64 lo, .int .i64 hi])) rfl rfl ty30 rfl) ?_
      refine AList.c0 rfl rfl (OpJ.store rfl rfl rfl rfl rfl ty30 rfl rfl) ?_
      refine AList.to ((To.freeze 1 rfl rfl).trans (To.done (H2 := [(rB 150 (r2))]) (S := [(2, _)]) [0] rfl (Sub.cons rfl Sub.nil) rfl)) ?_
      refine AList.nil ?_
      refine AWp.ret ?_
      exact FinOP.one rfl ⟨_, _, _, rfl, ty30, rfl⟩ ⟨_, _, hsome, rfl, rfl⟩
  · skip
    have hp : preB [46, 46] r1 = false := by rw [← isP_1]; exact hc0
    have hsome : ((spanP r).map fun x => (PV.agg x.1.cells, x.2)) = some (.agg [.int .i64 lo, .int .i64 lo], (isP [46, 46] r1).2) := by unfold spanP; rw [hn1, isP_no hp]; simp only [hp]; rfl
    refine AWp.skip ?_
    refine AWp.seq ?_
    refine AWp.region ?_
    refine AList.c 21 rfl rfl rfl (OpJ.load (v := .p (.agg [.int .i64 lo, .int .i64 lo])) rfl rfl ty30 rfl) ?_
    refine AList.c0 rfl rfl (OpJ.store rfl rfl rfl rfl rfl ty30 rfl rfl) ?_
    refine AList.to ((To.freeze 1 rfl rfl).trans (To.done (H2 := [(rB 150 ((isP [46, 46] r1).2))]) (S := [(2, _)]) [0] rfl (Sub.cons rfl Sub.nil) rfl)) ?_
    refine AList.nil ?_
    refine AWp.ret ?_
    exact FinOP.one rfl ⟨_, _, _, rfl, ty30, rfl⟩ ⟨_, _, hsome, rfl, rfl⟩
end Go.Proofs.YtbnemnhmejmeeaaGreatDoor.Bk
end

section
set_option linter.unusedVariables false
set_option maxRecDepth 100000
set_option maxHeartbeats 4000000
set_option linter.unusedSimpArgs false
namespace Go.Proofs.YtbnemnhmejmeeaaGreatDoor.Bk
open Go.AF
open Go.Proofs
end Go.Proofs.YtbnemnhmejmeeaaGreatDoor.Bk
end

section
set_option linter.unusedVariables false
set_option maxRecDepth 100000
set_option maxHeartbeats 4000000
set_option linter.unusedSimpArgs false
namespace Go.Proofs.YtbnemnhmejmeeaaGreatDoor.Bk
open Go.AF
theorem report_ok (r : Bs) (hr : r.length ≤ 65536) : ACallsR Tryz.prog 150 (.iface 147 (.agg [.int .i64 8])) 29 [] (r) ((rptR r).map fun x => (PV.agg x.1.cells, x.2)) := by
  refine ACallsP.start (N := 40) Tryz.func29 rfl rfl (Nat.le_of_ble_eq_true rfl) ?_
  refine AWp.seq ?_
  refine AWp.region ?_
  refine AList.c 2 rfl rfl rfl (OpJ.allocOwn rfl zr35 rfl) ?_
  refine AList.nil ?_
  refine AWp.seq ?_
  refine AWp.region ?_
  refine AList.c 4 rfl rfl rfl (OpJ.move rfl rfl) ?_
  refine AList.callR 5 0 (want_ok batT r) rfl rfl rfl rfl rfl rfl rfl rfl rf71 (fun h => ⟨_, rfl, (by have hz := Option.map_eq_none_iff.1 h; unfold rptR; simp only [show _ = none from hz, Option.bind_some, Option.bind_none]; rfl), rfl⟩) (fun q0 q1 hq => ?_)
  obtain ⟨r1, h1, hq2⟩ := Option.map_eq_some_iff.1 hq
  obtain ⟨rfl, rfl⟩ := Prod.mk.inj hq2
  refine AList.nil ?_
  refine AWp.seq ?_
  refine AWp.region ?_
  refine AList.c 6 rfl rfl rfl (OpJ.move rfl rfl) ?_
  refine AList.callR 7 0 (number_ok r1) rfl rfl rfl rfl rfl rfl rfl rfl rf72 (fun h => ⟨_, rfl, (by have hz := Option.map_eq_none_iff.1 h; unfold rptR; simp only [h1, show _ = none from hz, Option.bind_some, Option.bind_none]; rfl), rfl⟩) (fun q0 q1 hq => ?_)
  obtain ⟨⟨b, r2⟩, h2, hq2⟩ := Option.map_eq_some_iff.1 hq
  cases hq2
  refine AList.c 8 rfl rfl rfl (OpJ.fieldAddr rfl rfl fd35_0 rfl) ?_
  refine AList.c0 rfl rfl (OpJ.store (H' := [(rB 150 (r2)), .cells [.p (.int .i64 b), .p .nilSlice, .p (.int .i64 0), .p (.int .i64 0), .p (.int .i64 0), .p (.int .i64 0)] 35]) rfl rfl rfl rfl rfl ty3 rfl rfl) ?_
  refine AList.nil ?_
  refine AWp.seq ?_
  refine AWp.region ?_
  refine AList.c 9 rfl rfl rfl (OpJ.move rfl rfl) ?_
  refine AList.callR 10 0 (want_ok strT r2) rfl rfl rfl rfl rfl rfl rfl rfl rf71 (fun h => ⟨_, rfl, (by have hz := Option.map_eq_none_iff.1 h; unfold rptR; simp only [h1, h2, show _ = none from hz, Option.bind_some, Option.bind_none]; rfl), rfl⟩) (fun q0 q1 hq => ?_)
  obtain ⟨r3, h3, hq2⟩ := Option.map_eq_some_iff.1 hq
  obtain ⟨rfl, rfl⟩ := Prod.mk.inj hq2
  refine AList.nil ?_
  refine AWp.seq ?_
  refine AWp.region ?_
  refine AList.c 11 rfl rfl rfl (OpJ.move rfl rfl) ?_
  refine AList.callR 12 0 (span_ok r3) rfl rfl rfl rfl rfl rfl rfl rfl rf73 (fun h => ⟨_, rfl, (by have hz := Option.map_eq_none_iff.1 h; unfold rptR; simp only [h1, h2, h3, show _ = none from hz, Option.bind_some, Option.bind_none]; rfl), rfl⟩) (fun q0 q1 hq => ?_)
  obtain ⟨⟨st, r4⟩, h4, hq2⟩ := Option.map_eq_some_iff.1 hq
  cases hq2
  refine AList.c 13 rfl rfl rfl (OpJ.fieldAddr rfl rfl fd35_2 rfl) ?_
  refine AList.c0 rfl rfl (OpJ.store (H' := [(rB 150 (r4)), .cells [.p (.int .i64 b), .p .nilSlice, .p (.int .i64 st.lo), .p (.int .i64 st.hi), .p (.int .i64 0), .p (.int .i64 0)] 35]) rfl rfl rfl rfl rfl ty30 rfl rfl) ?_
  refine AList.nil ?_
  refine AWp.seq ?_
  refine AWp.region ?_
  refine AList.c 14 rfl rfl rfl (OpJ.move rfl rfl) ?_
  refine AList.callR 15 0 (want_ok weaT r4) rfl rfl rfl rfl rfl rfl rfl rfl rf71 (fun h => ⟨_, rfl, (by have hz := Option.map_eq_none_iff.1 h; unfold rptR; simp only [h1, h2, h3, h4, show _ = none from hz, Option.bind_some, Option.bind_none]; rfl), rfl⟩) (fun q0 q1 hq => ?_)
  obtain ⟨r5, h5, hq2⟩ := Option.map_eq_some_iff.1 hq
  obtain ⟨rfl, rfl⟩ := Prod.mk.inj hq2
  refine AList.nil ?_
  refine AWp.seq ?_
  refine AWp.region ?_
  refine AList.c 16 rfl rfl rfl (OpJ.move rfl rfl) ?_
  refine AList.callR 17 0 (span_ok r5) rfl rfl rfl rfl rfl rfl rfl rfl rf73 (fun h => ⟨_, rfl, (by have hz := Option.map_eq_none_iff.1 h; unfold rptR; simp only [h1, h2, h3, h4, h5, show _ = none from hz, Option.bind_some, Option.bind_none]; rfl), rfl⟩) (fun q0 q1 hq => ?_)
  obtain ⟨⟨we, r6⟩, h6, hq2⟩ := Option.map_eq_some_iff.1 hq
  cases hq2
  refine AList.c 18 rfl rfl rfl (OpJ.fieldAddr rfl rfl fd35_3 rfl) ?_
  refine AList.c0 rfl rfl (OpJ.store (H' := [(rB 150 (r6)), .cells [.p (.int .i64 b), .p .nilSlice, .p (.int .i64 st.lo), .p (.int .i64 st.hi), .p (.int .i64 we.lo), .p (.int .i64 we.hi)] 35]) rfl rfl rfl rfl rfl ty30 rfl rfl) ?_
  refine AList.nil ?_
  refine AWp.seq ?_
  refine AWp.region ?_
  refine AList.c 19 rfl rfl rfl (OpJ.move rfl rfl) ?_
  refine AList.callR 20 0 (want_ok [10] r6) rfl rfl rfl rfl rfl rfl rfl rfl rf71 (fun h => ⟨_, rfl, (by have hz := Option.map_eq_none_iff.1 h; unfold rptR; simp only [h1, h2, h3, h4, h5, h6, show _ = none from hz, Option.bind_some, Option.bind_none]; rfl), rfl⟩) (fun q0 q1 hq => ?_)
  obtain ⟨r7, h7, hq2⟩ := Option.map_eq_some_iff.1 hq
  obtain ⟨rfl, rfl⟩ := Prod.mk.inj hq2
  have g7 : r7.length ≤ r.length := by have := want_len h1; have := num_len h2; have := want_len h3; have := span_len h4; have := want_len h5; have := span_len h6; have := want_len h7; omega
  refine AList.nil ?_
  refine AWp.seq ?_
  refine AWp.block ?_
  refine AWp.loopHL [0, 2, 39] (fun g => []) (fun g => [(rB 150 (g.2)), .cells [.p (.int .i64 b), accV 2 g.1.length, .p (.int .i64 st.lo), .p (.int .i64 st.hi), .p (.int .i64 we.lo), .p (.int .i64 we.hi)] 35, accB ((g.1.flatMap Stk.cells).map .p) 82 g.1.length]) (fun g => g.1.length + g.2.length ≤ 65536 ∧ RptI r b st we g.1 g.2) (fun g => g.2.length) ([], r7) ⟨by show 0 + r7.length ≤ 65536; omega, rptI_0 h1 h2 h3 h4 h5 h6 h7⟩ (To.pad.trans (To.sub (Sub.chk Sub.nil))) (fun g hg => ?_)
  obtain ⟨acc, q⟩ := g
  obtain ⟨hq, hI⟩ := hg
  dsimp only at hq hI ⊢
  refine AWp.seq ?_
  refine AWp.seq ?_
  refine AWp.region ?_
  refine AList.c 21 rfl rfl rfl (OpJ.move rfl rfl) ?_
  refine AList.callR 22 0 (is_ok skT q) rfl rfl rfl rfl rfl rfl rfl rfl rf74 (fun h => by cases h) (fun q0 q1 hq => ?_)
  cases hq
  refine AList.nil ?_
  refine AWp.cond _ rfl (fun hc0 => ?_) (fun hc0 => ?_)
  · skip
    have hp : preB skT q = true := by rw [← isP_1]; exact hc0
    have e7 : (isP skT q).2 = q.drop 7 := by rw [isP_yes hp]; rfl
    refine AWp.skip ?_
    refine AWp.block ?_
    refine AWp.seq ?_
    refine AWp.region ?_
    refine AList.c 3 rfl rfl rfl (OpJ.allocOwn rfl zr82 rfl) ?_
    refine AList.nil ?_
    refine AWp.seq ?_
    refine AWp.region ?_
    refine AList.c 23 rfl rfl rfl (OpJ.move rfl rfl) ?_
    refine AList.callR 24 0 (span_ok (isP skT q).2) rfl rfl rfl rfl rfl rfl rfl rfl rf73 (fun h => ⟨_, rfl, (rptI_fail hI hp (by have hz := Option.map_eq_none_iff.1 h; rw [e7] at hz; unfold stkR; simp only [show _ = none from hz, Option.bind_some, Option.bind_none, Option.map_none])), rfl⟩) (fun q0 q1 hq => ?_)
    obtain ⟨⟨a, q1⟩, k1, hq2⟩ := Option.map_eq_some_iff.1 hq
    cases hq2
    rw [e7] at k1
    refine AList.c 25 rfl rfl rfl (OpJ.fieldAddr rfl rfl fd82_0 rfl) ?_
    refine AList.c0 rfl rfl (OpJ.store rfl rfl rfl rfl rfl ty30 rfl rfl) ?_
    refine AList.nil ?_
    refine AWp.seq ?_
    refine AWp.region ?_
    refine AList.c 26 rfl rfl rfl (OpJ.move rfl rfl) ?_
    refine AList.callR 27 0 (want_ok [32, 111, 110, 32] q1) rfl rfl rfl rfl rfl rfl rfl rfl rf71 (fun h => ⟨_, rfl, (rptI_fail hI hp (by have hz := Option.map_eq_none_iff.1 h;  unfold stkR; simp only [k1, show _ = none from hz, Option.bind_some, Option.bind_none, Option.map_none])), rfl⟩) (fun q0 q1 hq => ?_)
    obtain ⟨q2, k2, hq2⟩ := Option.map_eq_some_iff.1 hq
    obtain ⟨rfl, rfl⟩ := Prod.mk.inj hq2
    refine AList.nil ?_
    refine AWp.seq ?_
    refine AWp.region ?_
    refine AList.c 28 rfl rfl rfl (OpJ.move rfl rfl) ?_
    refine AList.callR 29 0 (span_ok q2) rfl rfl rfl rfl rfl rfl rfl rfl rf73 (fun h => ⟨_, rfl, (rptI_fail hI hp (by have hz := Option.map_eq_none_iff.1 h;  unfold stkR; simp only [k1, k2, show _ = none from hz, Option.bind_some, Option.bind_none, Option.map_none])), rfl⟩) (fun q0 q1 hq => ?_)
    obtain ⟨⟨e, q3⟩, k3, hq2⟩ := Option.map_eq_some_iff.1 hq
    cases hq2
    refine AList.c 30 rfl rfl rfl (OpJ.fieldAddr rfl rfl fd82_1 rfl) ?_
    refine AList.c0 rfl rfl (OpJ.store rfl rfl rfl rfl rfl ty30 rfl rfl) ?_
    refine AList.nil ?_
    refine AWp.seq ?_
    refine AWp.region ?_
    refine AList.c 31 rfl rfl rfl (OpJ.move rfl rfl) ?_
    refine AList.callR 32 0 (want_ok [10] q3) rfl rfl rfl rfl rfl rfl rfl rfl rf71 (fun h => ⟨_, rfl, (rptI_fail hI hp (by have hz := Option.map_eq_none_iff.1 h;  unfold stkR; simp only [k1, k2, k3, show _ = none from hz, Option.bind_some, Option.bind_none, Option.map_none])), rfl⟩) (fun q0 q1 hq => ?_)
    obtain ⟨q4, k4, hq2⟩ := Option.map_eq_some_iff.1 hq
    obtain ⟨rfl, rfl⟩ := Prod.mk.inj hq2
    have hsk := stkR_some k1 k2 k3 k4
    have gsk := stkR_len hsk
    rw [List.length_drop] at gsk
    refine AList.nil ?_
    refine AWp.region ?_
    refine AList.c 33 rfl rfl rfl (OpJ.fieldAddr rfl rfl fd35_1 rfl) ?_
    refine AList.c 34 rfl rfl rfl (OpJ.load (v := accV 2 acc.length) rfl rfl ty31 rfl) ?_
    refine AList.c 35 rfl rfl rfl (OpJ.load (v := .p (.agg (Stk.mk a e).cells)) rfl rfl ty82 rfl) ?_
    refine AList.c 36 rfl rfl rfl (OpJ.buildImm rfl slz31 (by decide) rfl rfl rfl) ?_
    refine AList.c 37 rfl rfl rfl (OpJ.appendAcc rfl rfl rfl slz31 sl31 rfl ?_ rfl (by decide) rfl by82 (by decide) ?_) ?_
    · rw [List.length_map, Go.AF.flat_len (c := 4) (fun _ => rfl)]; rfl
    · show (2 * (acc.length + 1) + 192) * 32 ≤ 281474976710656; omega
    refine AList.c 38 rfl rfl rfl (OpJ.fieldAddr rfl rfl fd35_1 rfl) ?_
    refine AList.c0 rfl rfl (OpJ.store rfl rfl rfl rfl rfl ty31 rfl rfl) ?_
    refine AList.nil ?_
    refine ⟨(acc ++ [⟨a, e⟩], q4), ?_, ?_, ?_⟩
    · exact ⟨by rw [List.length_append]; show acc.length + 1 + q4.length ≤ 65536; omega, rptI_step hI hp hsk⟩
    · show q4.length < q.length
      omega
    have eLn : (acc ++ [Stk.mk a e]).length = acc.length + 1 := by rw [List.length_append]; rfl
    have eL : (acc ++ [Stk.mk a e]).flatMap Stk.cells = acc.flatMap Stk.cells ++ (Stk.mk a e).cells := by rw [List.flatMap_append]; simp
    dsimp only
    rw [eLn, eL]
    refine To.done [0, 1, 4] rfl (by repeat (first | exact Sub.nil | refine Sub.cons rfl ?_)) ?_
    show (_ : Blk) :: _ :: [_] = _ :: _ :: [_]
    refine List.cons_eq_cons.2 ⟨rfl, List.cons_eq_cons.2 ⟨rfl, ?_⟩⟩
    show [Blk.row (renL _ (_ ++ _)) _] = [Blk.row _ _]
    rw [renL_app, renL_pure, List.map_append]
    rfl
  · skip
    have hp : preB skT q = false := by rw [← isP_1]; exact hc0
    refine AWp.to (To.accC 2 1 (xs := acc.flatMap Stk.cells) (n := acc.length) (a := [.int .i64 b]) (b := [.int .i64 st.lo, .int .i64 st.hi, .int .i64 we.lo, .int .i64 we.hi]) [(0, .ptr 0 0), (2, .ptr 1 0)] (by decide) rfl rfl (fun h => by rw [List.length_eq_zero_iff.1 h]; rfl) rfl rfl (by repeat (first | exact Sub.nil | refine Sub.cons rfl ?_)) (by repeat (first | exact Sub.nil | refine Sub.cons rfl ?_))) ?_
    refine AWp.exit ?_
    refine AWp.seq ?_
    refine AWp.region ?_
    refine AList.c 39 rfl rfl rfl (OpJ.load (v := .p (.agg (Rpt.mk b acc st we).cells)) rfl rfl ty35 rfl) ?_
    refine AList.c0 rfl rfl (OpJ.store rfl rfl rfl rfl rfl ty35 rfl rfl) ?_
    refine AList.to ((To.freeze 1 rfl rfl).trans (To.done (H2 := [(rB 150 ((isP skT q).2))]) (S := [(2, _)]) [0] rfl (Sub.cons rfl Sub.nil) rfl)) ?_
    refine AList.nil ?_
    refine AWp.ret ?_
    exact FinOP.one rfl ⟨_, _, _, rfl, ty35, rfl⟩ ⟨_, _, rptI_end hI hp, rfl, by show [rB _ _] = [rB _ _]; rw [isP_no hp]⟩
end Go.Proofs.YtbnemnhmejmeeaaGreatDoor.Bk
end

section
set_option linter.unusedVariables false
set_option maxRecDepth 100000
set_option maxHeartbeats 4000000
set_option linter.unusedSimpArgs false
namespace Go.Proofs.YtbnemnhmejmeeaaGreatDoor.Bk
open Go.AF
end Go.Proofs.YtbnemnhmejmeeaaGreatDoor.Bk
end

section
set_option linter.unusedVariables false
set_option maxRecDepth 100000
set_option maxHeartbeats 4000000
set_option linter.unusedSimpArgs false
namespace Go.Proofs.YtbnemnhmejmeeaaGreatDoor.Bk
open Go.AF
end Go.Proofs.YtbnemnhmejmeeaaGreatDoor.Bk
end
