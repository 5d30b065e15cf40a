/-
  What a reader takes.
  Spans, bytes and long numbers are taken.
  A slice is repeated.
  A report is read.
  Cards are read.
  A pack is read.
-/
import Derived.Test.YtplofbjppcbchaaDoorMzVB
import Derived.Test.YtplofbjppcbchaaDoorMzVP
import Derived.Test.YtplofbjppcbchaaDoorFaVE
section
set_option linter.unusedVariables false
set_option maxRecDepth 100000
set_option maxHeartbeats 4000000
set_option linter.unusedSimpArgs false
namespace Go.Proofs.YtplofbjppcbchaaDoor
open Go.AF
theorem hasPrefix_ok (s p : Bs) : Pure Tryd.prog 93 [.str (sB s), .str (sB p)] (.bool (preB p s)) := by
  refine Pure.start (N := 18) Tryd.func93 rfl rfl (Nat.le_of_ble_eq_true rfl) ?_
  refine AWp.seq ?_
  refine AWp.region ?_
  refine AList.c 4 rfl rfl rfl (OpJ.assign rfl rfl) ?_
  refine AList.nil ?_
  refine AWp.seq ?_
  refine AWp.region ?_
  refine AList.c 5 rfl rfl rfl (OpJ.move rfl rfl) ?_
  refine AList.c 6 rfl rfl rfl (OpJ.lenStr rfl rfl un9) ?_
  refine AList.c 7 rfl rfl rfl (OpJ.move rfl rfl) ?_
  refine AList.c 8 rfl rfl rfl (OpJ.lenStr rfl rfl un9) ?_
  refine AList.c 9 rfl rfl rfl (OpJ.geq rfl rfl rfl) ?_
  refine AList.c 10 rfl rfl rfl (OpJ.move rfl rfl) ?_
  refine AList.g 11 10 rfl rfl rfl rfl rfl rfl rfl [(0, _)] (fun h => And.intro (.inl rfl) (trivial)) (fun h => (OpJ.move rfl rfl)) ?_
  refine AList.g 12 10 rfl rfl rfl rfl rfl rfl rfl [(1, _)] (fun h => And.intro (.inl rfl) (trivial)) (fun h => (OpJ.move rfl rfl)) ?_
  refine AList.g 13 10 rfl rfl rfl rfl rfl rfl rfl [(12, _)] (fun h => And.intro (.inr ⟨_, rfl, h⟩) (trivial)) (fun h => (OpJ.lenStr rfl rfl un9)) ?_
  refine AList.g 14 10 rfl rfl rfl rfl rfl rfl rfl [(11, _), (13, _)] (fun h => And.intro (.inr ⟨_, rfl, h⟩) (And.intro (.inr ⟨_, rfl, h⟩) (trivial))) (fun h => (OpJ.strCut s 0 p.length rfl rfl st9 rfl ⟨_, rfl⟩ (Nat.zero_le _) (by have h2 : ((s.length : Int) ≥ (p.length : Int)) := of_decide_eq_true (eq_of_beq h); omega))) ?_
  refine AList.g 15 10 rfl rfl rfl rfl rfl rfl rfl [(1, _)] (fun h => And.intro (.inl rfl) (trivial)) (fun h => (OpJ.move rfl rfl)) ?_
  refine AList.g 16 10 rfl rfl rfl rfl rfl rfl rfl [(14, _), (15, _)] (fun h => And.intro (.inr ⟨_, rfl, h⟩) (And.intro (.inr ⟨_, rfl, h⟩) (trivial))) (fun h => (OpJ.strEq _ _ rfl rfl rfl)) ?_
  refine AList.c 17 rfl rfl rfl (OpJ.and_ rfl rfl rfl ?_) ?_
  · first | (intro h; rw [h]; rfl) | (intro h; simp_all)
  refine AList.c 4 rfl rfl rfl (OpJ.assign rfl rfl) ?_
  refine AList.nil ?_
  refine AWp.ret ?_
  refine Fin.oneE rfl rfl ?_
  unfold preB
  rw [Bool.and_comm]
  congr 1
  congr 1
  exact decide_eq_decide.2 (by show (s.length : Int) ≥ (p.length : Int) ↔ _; omega)
theorem cutP_ok (s p : Bs) : Pure Tryd.prog 86 [.str (sB s), .str (sB p)] (.tuple [.str (sB (isP p s).2), .bool (isP p s).1]) := by
  refine Pure.start (N := 15) Tryd.func86 rfl rfl (Nat.le_of_ble_eq_true rfl) ?_
  refine AWp.seq ?_
  refine AWp.region ?_
  refine AList.c 4 rfl rfl rfl (OpJ.assign rfl rfl) ?_
  refine AList.c 5 rfl rfl rfl (OpJ.assign rfl rfl) ?_
  refine AList.nil ?_
  refine AWp.seq ?_
  refine AWp.seq ?_
  refine AWp.region ?_
  refine AList.c 6 rfl rfl rfl (OpJ.move rfl rfl) ?_
  refine AList.c 7 rfl rfl rfl (OpJ.move rfl rfl) ?_
  refine AList.c 8 rfl rfl rfl (OpJ.callP (hasPrefix_ok _ _) rfl rfl rfl rfl rf93) ?_
  refine AList.c 9 rfl rfl rfl (OpJ.not_ rfl rfl) ?_
  refine AList.nil ?_
  refine AWp.cond _ rfl (fun hc0 => ?_) (fun hc0 => ?_)
  · skip
    have hp : preB p s = false := by simpa using hc0
    refine AWp.seq ?_
    refine AWp.region ?_
    refine AList.c 10 rfl rfl rfl (OpJ.move rfl rfl) ?_
    refine AList.c 4 rfl rfl rfl (OpJ.assign rfl rfl) ?_
    refine AList.c 5 rfl rfl rfl (OpJ.assign rfl rfl) ?_
    refine AList.nil ?_
    refine AWp.ret ?_
    refine Fin.manyE (xs := [.str (sB s), .bool false]) rfl ⟨_, _, rfl, rfl, ⟨_, _, rfl, rfl, rfl⟩⟩ rfl ?_
    rw [isP_no hp]
  · skip
    have hp : preB p s = true := by simpa using hc0
    have hpl := (preB_iff.1 hp).2
    refine AWp.skip ?_
    refine AWp.seq ?_
    refine AWp.region ?_
    refine AList.c 11 rfl rfl rfl (OpJ.move rfl rfl) ?_
    refine AList.c 12 rfl rfl rfl (OpJ.move rfl rfl) ?_
    refine AList.c 13 rfl rfl rfl (OpJ.lenStr rfl rfl un9) ?_
    refine AList.c 14 rfl rfl rfl (OpJ.strCut s p.length s.length rfl rfl st9 ⟨_, rfl⟩ rfl (by omega) (Nat.le_refl _)) ?_
    refine AList.c 4 rfl rfl rfl (OpJ.assign rfl rfl) ?_
    refine AList.c 5 rfl rfl rfl (OpJ.assign rfl rfl) ?_
    refine AList.nil ?_
    refine AWp.ret ?_
    refine Fin.manyE (xs := [.str (sB ((s.drop p.length).take (s.length - p.length))), .bool true]) rfl ⟨_, _, rfl, rfl, ⟨_, _, rfl, rfl, rfl⟩⟩ rfl ?_
    rw [isP_yes hp, List.take_of_length_le (by rw [List.length_drop]; omega)]
theorem cut_ok (s p : Bs) : Pure Tryd.prog 82 [.str (sB s), .str (sB p)] (.tuple [.str (sB (isP p s).2), .bool (isP p s).1]) := by
  refine Pure.start (N := 11) Tryd.func82 rfl rfl (Nat.le_of_ble_eq_true rfl) ?_
  refine AWp.seq ?_
  refine AWp.region ?_
  refine AList.c 4 rfl rfl rfl (OpJ.assign rfl rfl) ?_
  refine AList.c 5 rfl rfl rfl (OpJ.assign rfl rfl) ?_
  refine AList.nil ?_
  refine AWp.seq ?_
  refine AWp.region ?_
  refine AList.c 6 rfl rfl rfl (OpJ.move rfl rfl) ?_
  refine AList.c 7 rfl rfl rfl (OpJ.move rfl rfl) ?_
  refine AList.c 8 rfl rfl rfl (OpJ.callP (cutP_ok _ _) rfl rfl rfl rfl rf86) ?_
  refine AList.c 9 rfl rfl rfl (OpJ.extract rfl rfl rfl) ?_
  refine AList.c 10 rfl rfl rfl (OpJ.extract rfl rfl rfl) ?_
  refine AList.c 4 rfl rfl rfl (OpJ.assign rfl rfl) ?_
  refine AList.c 5 rfl rfl rfl (OpJ.assign rfl rfl) ?_
  refine AList.nil ?_
  refine AWp.ret ?_
  exact Fin.many (xs := [.str (sB (isP p s).2), .bool (isP p s).1]) rfl ⟨_, _, rfl, rfl, ⟨_, _, rfl, rfl, rfl⟩⟩ rfl
theorem is_ok (s r : Bs) : ACallsR Tryd.prog 127 (.iface 124 (.agg [.int .i64 8])) 66 [.str (sB s)] (r) (some (.bool (isP s r).1, (isP s r).2)) := by
  refine ACallsP.start (N := 18) Tryd.func66 rfl rfl (Nat.le_of_ble_eq_true rfl) ?_
  refine AWp.seq ?_
  refine AWp.region ?_
  refine AList.c 4 rfl rfl rfl (OpJ.assign rfl rfl) ?_
  refine AList.nil ?_
  refine AWp.seq ?_
  refine AWp.region ?_
  refine AList.c 6 rfl rfl rfl (OpJ.move rfl rfl) ?_
  refine AList.c 7 rfl rfl rfl (OpJ.move rfl rfl) ?_
  refine AList.c 8 rfl rfl rfl (OpJ.nilCheck rfl rfl) ?_
  refine AList.c 9 rfl rfl rfl (OpJ.fieldAddr rfl rfl fd127_0 rfl) ?_
  refine AList.c 10 rfl rfl rfl (OpJ.load rfl rfl ty9 rfl) ?_
  refine AList.c 11 rfl rfl rfl (OpJ.move rfl rfl) ?_
  refine AList.c 12 rfl rfl rfl (OpJ.callP (cut_ok _ _) rfl rfl rfl rfl rf82) ?_
  refine AList.c 5 rfl rfl rfl (OpJ.move rfl rfl) ?_
  refine AList.c 13 rfl rfl rfl (OpJ.extract rfl rfl rfl) ?_
  refine AList.c 14 rfl rfl rfl (OpJ.extract rfl rfl rfl) ?_
  refine AList.c 15 rfl rfl rfl (OpJ.nilCheck rfl rfl) ?_
  refine AList.c 16 rfl rfl rfl (OpJ.fieldAddr rfl rfl fd127_0 rfl) ?_
  refine AList.c0 rfl rfl (OpJ.store rfl rfl rfl rfl rfl ty9 rfl rfl) ?_
  refine AList.c 4 rfl rfl rfl (OpJ.assign rfl rfl) ?_
  refine AList.nil ?_
  refine AWp.seq ?_
  refine AWp.region ?_
  refine AList.c 17 rfl rfl rfl (OpJ.move rfl rfl) ?_
  refine AList.c 4 rfl rfl rfl (OpJ.assign rfl rfl) ?_
  refine AList.nil ?_
  refine AWp.ret ?_
  exact FinOP.one rfl rfl ⟨_, _, rfl, rfl, rfl⟩
theorem fail_ok : AFail Tryd.prog 68 [.int .i64 8] (.iface 124 (.agg [.int .i64 8])) := by
  refine ACallsP.start (N := 5) Tryd.func68 rfl rfl (Nat.le_of_ble_eq_true rfl) ?_
  refine AWp.region ?_
  refine AList.c 2 rfl rfl rfl (OpJ.move rfl rfl) ?_
  refine AList.c 3 rfl rfl rfl (OpJ.build rfl bd124 rfl rfl) ?_
  refine AList.c 4 rfl rfl rfl (OpJ.makeIface rfl rfl con124) ?_
  refine AList.panic rfl rfl rfl ?_
  exact ⟨_, rfl, rfl⟩
theorem want_ok (s r : Bs) : ACallsR Tryd.prog 127 (.iface 124 (.agg [.int .i64 8])) 65 [.str (sB s)] (r) ((wantP s r).map fun x => (PV.tuple [], x)) := by
  refine ACallsP.start (N := 9) Tryd.func65 rfl rfl (Nat.le_of_ble_eq_true rfl) ?_
  refine AWp.seq ?_
  refine AWp.region ?_
  refine AList.c 4 rfl rfl rfl (OpJ.move rfl rfl) ?_
  refine AList.c 5 rfl rfl rfl (OpJ.move rfl rfl) ?_
  refine AList.callR 6 0 (is_ok s r) rfl rfl rfl rfl rfl rfl rfl rfl rf66 (fun h => by cases h) (fun q0 q1 hq => ?_)
  cases hq
  refine AList.c 7 rfl rfl rfl (OpJ.not_ rfl rfl) ?_
  refine AList.nil ?_
  refine AWp.cond _ rfl (fun hc0 => ?_) (fun hc0 => ?_)
  · skip
    have hno : ((wantP s r).map fun x => (PV.tuple [], x)) = none := by have h : preB s r = false := (by rw [← isP_1]; simpa using hc0); unfold wantP; rw [h]; rfl
    refine AWp.region ?_
    refine AList.callFail 8 (fail_ok) rfl rfl rfl rfl rfl rfl rfl rf68 ⟨_, rfl, hno, rfl⟩
  · skip
    have hp : preB s r = true := by rw [← isP_1]; simpa using hc0
    refine AWp.skip ?_
    exact ⟨.inl rfl, _, resV.none_ rfl, _, _, by unfold wantP; rw [hp]; rfl, rfl, by rw [isP_yes hp]; rfl⟩
theorem number_ok (r : Bs) : ACallsR Tryd.prog 127 (.iface 124 (.agg [.int .i64 8])) 64 [] (r) ((numP r).map fun x => (PV.int .i64 x.1, x.2)) := by
  refine ACallsP.start (N := 73) Tryd.func64 rfl rfl (Nat.le_of_ble_eq_true rfl) ?_
  have hdl := digN_le r
  refine AWp.seq ?_
  refine AWp.region ?_
  refine AList.c 2 rfl rfl rfl (OpJ.assign rfl rfl) ?_
  refine AList.nil ?_
  refine AWp.seq ?_
  refine AWp.region ?_
  refine AList.c 9 rfl rfl rfl (OpJ.move rfl rfl) ?_
  refine AList.c 10 rfl rfl rfl (OpJ.nilCheck rfl rfl) ?_
  refine AList.c 11 rfl rfl rfl (OpJ.fieldAddr rfl rfl fd127_0 rfl) ?_
  refine AList.c 12 rfl rfl rfl (OpJ.load rfl rfl ty9 rfl) ?_
  refine AList.c 13 rfl rfl rfl (OpJ.lenStr rfl rfl un9) ?_
  refine AList.c 3 rfl rfl rfl (OpJ.assign rfl rfl) ?_
  refine AList.nil ?_
  refine AWp.join (fun (g : Unit) => [(0, .ptr 0 0), (2, .p (.int .i64 0)), (3, .p (.int .i64 ((digN r : Nat) : Int)))]) (fun (g : Unit) => [(rB 127 (r))]) (fun (g : Unit) => True) ?_ (fun g hg => ?_)
  · skip
    refine AWp.seq ?_
    refine AWp.region ?_
    refine AList.c 14 rfl rfl rfl (OpJ.move rfl rfl) ?_
    refine AList.c 15 rfl rfl rfl (OpJ.nilCheck rfl rfl) ?_
    refine AList.c 16 rfl rfl rfl (OpJ.fieldAddr rfl rfl fd127_0 rfl) ?_
    refine AList.c 17 rfl rfl rfl (OpJ.load rfl rfl ty9 rfl) ?_
    refine AList.c 18 rfl rfl rfl (OpJ.rangeStr _ rfl rfl st9) ?_
    refine AList.nil ?_
    refine AWp.block ?_
    refine AWp.loopHL [0, 2, 6, 8, 18, 30, 31, 32, 33, 34, 35, 36, 37, 38, 39, 40, 41, 42, 43, 44, 45, 46, 47, 48, 49, 50, 52, 53, 54, 55, 56, 57, 58, 59, 60, 61, 62, 63, 64, 65, 66, 67, 68, 69, 70, 71, 72] (fun g => [(3, .p (.int .i64 ((r.length : Nat) : Int)))]) (fun g => [(rB 127 (r)), .strIter (sB r) g]) (fun g => g ≤ r.length ∧ ∀ j, j < g → ∃ b, r[j]? = some b ∧ digB b = true) (fun g => r.length - g) 0 ⟨Nat.zero_le _, fun j hj => absurd hj (by omega)⟩ (To.sub (Sub.chk (Sub.cons rfl (Sub.nil)))) (fun i ⟨hg1, hg2⟩ => ?_)
    refine AWp.seq ?_
    refine AWp.region ?_
    refine AList.nextStr 19 r rfl rfl rfl rfl rfl rfl (fun hov => ?_) (fun b c wd hb hlo hhi hwd => ?_)
    · skip
      have hd : digN r = r.length := digN_char r r.length (fun j hj => hg2 j (by omega)) (fun b hb => by rw [List.getElem?_eq_none (Nat.le_refl _)] at hb; cases hb)
      refine AList.c 20 rfl rfl rfl (OpJ.extract rfl rfl rfl) ?_
      refine AList.nil ?_
      refine AWp.seq ?_
      refine AWp.cond _ rfl (fun hc0 => ?_) (fun hc0 => ?_)
      · skip
        cases hc0
      · skip
        refine AWp.exit ?_
        exact ⟨(), trivial, To.done [0] rfl (Sub.cons rfl (Sub.cons rfl (Sub.cons (by rw [hd]; rfl) Sub.nil))) rfl⟩
    · skip
      have hil := (List.getElem?_eq_some_iff.1 hb).1
      refine AList.c 20 rfl rfl rfl (OpJ.extract rfl rfl rfl) ?_
      refine AList.nil ?_
      refine AWp.seq ?_
      refine AWp.cond _ rfl (fun hc0 => ?_) (fun hc0 => ?_)
      · skip
        refine AWp.skip ?_
        refine AWp.block ?_
        refine AWp.seq ?_
        refine AWp.region ?_
        refine AList.c 21 rfl rfl rfl (OpJ.extract rfl rfl rfl) ?_
        refine AList.c 22 rfl rfl rfl (OpJ.extract rfl rfl rfl) ?_
        refine AList.c 4 rfl rfl rfl (OpJ.assign rfl rfl) ?_
        refine AList.c 5 rfl rfl rfl (OpJ.assign rfl rfl) ?_
        refine AList.nil ?_
        refine AWp.seq ?_
        refine AWp.region ?_
        refine AList.c 23 rfl rfl rfl (OpJ.move rfl rfl) ?_
        refine AList.c 24 rfl rfl rfl (OpJ.lss rfl rfl rfl) ?_
        refine AList.c 25 rfl rfl rfl (OpJ.move rfl rfl) ?_
        refine AList.g 26 25 rfl rfl rfl rfl rfl rfl rfl [(5, _)] (fun h => And.intro (.inl rfl) (trivial)) (fun h => (OpJ.move rfl rfl)) ?_
        refine AList.g 27 25 rfl rfl rfl rfl rfl rfl rfl [(26, _)] (fun h => And.intro (.inr ⟨_, rfl, h⟩) (trivial)) (fun h => (OpJ.gtr rfl rfl rfl)) ?_
        refine AList.c 28 rfl rfl rfl (OpJ.or_ rfl rfl rfl ?_) ?_
        · first | (intro h; rw [h]; rfl) | (intro h; simp_all)
        refine AList.nil ?_
        refine AWp.cond _ rfl (fun hc1 => ?_) (fun hc1 => ?_)
        · skip
          have hd : digN r = i := digN_char r i hg2 (fun b2 hb2 => by rw [hb] at hb2; cases hb2; exact num_c hc1 hlo hhi)
          refine AWp.seq ?_
          refine AWp.region ?_
          refine AList.c 29 rfl rfl rfl (OpJ.move rfl rfl) ?_
          refine AList.c 3 rfl rfl rfl (OpJ.assign rfl rfl) ?_
          refine AList.nil ?_
          refine AWp.exit ?_
          exact ⟨(), trivial, To.done [0] rfl (Sub.cons rfl (Sub.cons rfl (Sub.cons (by rw [hd]; rfl) Sub.nil))) rfl⟩
        · skip
          obtain ⟨hdb, rfl, rfl⟩ := num_cn hc1 hlo hhi
          refine AWp.skip ?_
          refine ⟨i + 1, ?_, ?_, ?_⟩
          · refine ⟨by omega, fun j hj => ?_⟩
            rcases Nat.lt_succ_iff_lt_or_eq.1 hj with h | rfl
            · exact hg2 j h
            · exact ⟨b, hb, hdb⟩
          · omega
          exact To.done [0, 1] rfl (by repeat (first | exact Sub.nil | refine Sub.cons rfl ?_)) rfl
      · skip
        cases hc0
  · skip
    refine AWp.seq ?_
    refine AWp.region ?_
    refine AList.c 30 rfl rfl rfl (OpJ.move rfl rfl) ?_
    refine AList.c 31 rfl rfl rfl (OpJ.nilCheck rfl rfl) ?_
    refine AList.c 32 rfl rfl rfl (OpJ.fieldAddr rfl rfl fd127_0 rfl) ?_
    refine AList.c 33 rfl rfl rfl (OpJ.load rfl rfl ty9 rfl) ?_
    refine AList.c 34 rfl rfl rfl (OpJ.move rfl rfl) ?_
    refine AList.c 35 rfl rfl rfl (OpJ.strCut r 0 (digN r) rfl rfl st9 rfl ⟨_, rfl⟩ (Nat.zero_le _) hdl) ?_
    refine AList.c 6 rfl rfl rfl (OpJ.assign rfl rfl) ?_
    refine AList.nil ?_
    refine AWp.seq ?_
    refine AWp.seq ?_
    refine AWp.region ?_
    refine AList.c 36 rfl rfl rfl (OpJ.move rfl rfl) ?_
    refine AList.c 37 rfl rfl rfl (OpJ.eql rfl rfl rfl) ?_
    refine AList.c 38 rfl rfl rfl (OpJ.move rfl rfl) ?_
    refine AList.g 39 38 rfl rfl rfl rfl rfl rfl rfl [(3, _)] (fun h => And.intro (.inl rfl) (trivial)) (fun h => (OpJ.move rfl rfl)) ?_
    refine AList.g 40 38 rfl rfl rfl rfl rfl rfl rfl [(39, _)] (fun h => And.intro (.inr ⟨_, rfl, h⟩) (trivial)) (fun h => (OpJ.gtr rfl rfl rfl)) ?_
    refine AList.c 41 rfl rfl rfl (OpJ.or_ rfl rfl rfl ?_) ?_
    · first | (intro h; rw [h]; rfl) | (intro h; simp_all)
    refine AList.c 42 rfl rfl rfl (OpJ.move rfl rfl) ?_
    refine AList.g 43 42 rfl rfl rfl rfl rfl rfl rfl [(3, _)] (fun h => And.intro (.inl rfl) (trivial)) (fun h => (OpJ.move rfl rfl)) ?_
    refine AList.g 44 42 rfl rfl rfl rfl rfl rfl rfl [(43, _)] (fun h => And.intro (.inr ⟨_, rfl, h⟩) (trivial)) (fun h => (OpJ.gtr rfl rfl rfl)) ?_
    refine AList.g 45 42 rfl rfl rfl rfl rfl rfl rfl [(44, _)] (fun h => And.intro (.inr ⟨_, rfl, h⟩) (trivial)) (fun h => (OpJ.move rfl rfl)) ?_
    refine AList.g 46 45 rfl rfl rfl rfl rfl rfl rfl [(6, _)] (fun h => And.intro (.inl rfl) (trivial)) (fun h => (OpJ.move rfl rfl)) ?_
    refine AList.g 47 45 rfl rfl rfl rfl rfl rfl rfl [(46, _)] (fun h => And.intro (.inr ⟨_, rfl, h⟩) (trivial)) (fun h => (OpJ.strIx (r.take (digN r)) 0 (gt 0 r 0) rfl rfl rfl st9 (num_at0 (by have h2 := h; simp at h2; omega)))) ?_
    refine AList.g 48 45 rfl rfl rfl rfl rfl rfl rfl [(47, _)] (fun h => And.intro (.inr ⟨_, rfl, h⟩) (trivial)) (fun h => (OpJ.eql rfl rfl rfl)) ?_
    refine AList.g 49 42 rfl rfl rfl rfl rfl rfl rfl [(45, _), (48, _)] (fun h => And.intro (.inr ⟨_, rfl, h⟩) (And.intro (.inl rfl) (trivial))) (fun h => (OpJ.and_ rfl rfl rfl (fun hq => by simp_all))) ?_
    refine AList.c 50 rfl rfl rfl (OpJ.or_ rfl rfl rfl ?_) ?_
    · first | (intro h; rw [h]; rfl) | (intro h; simp_all)
    refine AList.nil ?_
    refine AWp.cond _ rfl (fun hc2 => ?_) (fun hc2 => ?_)
    · skip
      have hno : ((numP r).map fun x => (PV.int .i64 x.1, x.2)) = none := by rw [num_none (numBad_of hc2)]; rfl
      refine AWp.region ?_
      refine AList.callFail 51 (fail_ok) rfl rfl rfl rfl rfl rfl rfl rf68 ⟨_, rfl, hno, rfl⟩
    · skip
      have hok := numBad_of hc2
      have h9 : digN r ≤ 9 := by unfold numBad at hok; simp at hok; omega
      refine AWp.skip ?_
      refine AWp.seq ?_
      refine AWp.seq ?_
      refine AWp.region ?_
      refine AList.c 52 rfl rfl rfl (OpJ.move rfl rfl) ?_
      refine AList.c 53 rfl rfl rfl (OpJ.rangeStr _ rfl rfl st9) ?_
      refine AList.nil ?_
      refine AWp.block ?_
      refine AWp.loopHL [0, 3, 53, 63, 64, 65, 66, 67, 68, 69, 70, 71, 72] (fun g => [(2, .p (.int .i64 ((valD (r.take g) : Nat) : Int)))]) (fun g => [(rB 127 (r)), .strIter (sB (r.take (digN r))) g]) (fun g => g ≤ digN r) (fun g => digN r - g) 0 (Nat.zero_le _) (To.sub (Sub.chk (Sub.cons rfl (Sub.nil)))) (fun i hg => ?_)
      refine AWp.seq ?_
      refine AWp.region ?_
      refine AList.nextStr 54 (r.take (digN r)) rfl rfl rfl rfl rfl rfl (fun hov => ?_) (fun b c wd hb hlo hhi hwd => ?_)
      · skip
        have hi2 : i = digN r := by rw [List.length_take] at hov; omega
        refine AList.c 55 rfl rfl rfl (OpJ.extract rfl rfl rfl) ?_
        refine AList.nil ?_
        refine AWp.seq ?_
        refine AWp.cond _ rfl (fun hc3 => ?_) (fun hc3 => ?_)
        · skip
          cases hc3
        · skip
          refine AWp.exit ?_
          refine AWp.seq ?_
          refine AWp.region ?_
          refine AList.c 63 rfl rfl rfl (OpJ.move rfl rfl) ?_
          refine AList.c 64 rfl rfl rfl (OpJ.move rfl rfl) ?_
          refine AList.c 65 rfl rfl rfl (OpJ.nilCheck rfl rfl) ?_
          refine AList.c 66 rfl rfl rfl (OpJ.fieldAddr rfl rfl fd127_0 rfl) ?_
          refine AList.c 67 rfl rfl rfl (OpJ.load rfl rfl ty9 rfl) ?_
          refine AList.c 68 rfl rfl rfl (OpJ.move rfl rfl) ?_
          refine AList.c 69 rfl rfl rfl (OpJ.strCut r (digN r) r.length rfl rfl st9 ⟨_, rfl⟩ rfl hdl (Nat.le_refl _)) ?_
          refine AList.c 70 rfl rfl rfl (OpJ.nilCheck rfl rfl) ?_
          refine AList.c 71 rfl rfl rfl (OpJ.fieldAddr rfl rfl fd127_0 rfl) ?_
          refine AList.c0 rfl rfl (OpJ.store rfl rfl rfl rfl rfl ty9 rfl rfl) ?_
          refine AList.nil ?_
          refine AWp.seq ?_
          refine AWp.region ?_
          refine AList.c 72 rfl rfl rfl (OpJ.move rfl rfl) ?_
          refine AList.c 2 rfl rfl rfl (OpJ.assign rfl rfl) ?_
          refine AList.nil ?_
          refine AWp.norm [0] [(2, _)] [(rB 127 ((r.drop (digN r))))] rfl (by repeat (first | exact Sub.nil | refine Sub.cons rfl ?_)) (by show [Blk.cells [.p (.str (sB ((r.drop (digN r)).take (r.length - digN r))))] _] = _; rw [List.take_of_length_le (by rw [List.length_drop]; omega)]; rfl) ?_
          refine AWp.ret ?_
          exact FinOP.one rfl rfl ⟨_, _, by rw [num_some hok]; rfl, by rw [hi2]; rfl, rfl⟩
      · skip
        have hil := (List.getElem?_eq_some_iff.1 hb).1
        have hil2 : i < digN r := by rw [List.length_take] at hil; omega
        obtain ⟨b3, hb3, hdb⟩ := digN_at r i hil2
        have hbr : r[i]? = some b := by rw [List.getElem?_take_of_lt hil2] at hb; exact hb
        rw [hbr] at hb3
        cases hb3
        simp only [digB, Bool.and_eq_true, decide_eq_true_eq] at hdb
        obtain ⟨rfl, rfl⟩ := hlo (by omega)
        have hv := val_lt (show i + 1 ≤ digN r by omega) h9
        have hvs := val_step hbr
        have hv0 := val_lt (show i ≤ digN r by omega) h9
        refine AList.c 55 rfl rfl rfl (OpJ.extract rfl rfl rfl) ?_
        refine AList.nil ?_
        refine AWp.seq ?_
        refine AWp.cond _ rfl (fun hc3 => ?_) (fun hc3 => ?_)
        · skip
          refine AWp.skip ?_
          refine AWp.block ?_
          refine AWp.seq ?_
          refine AWp.region ?_
          refine AList.c 56 rfl rfl rfl (OpJ.extract rfl rfl rfl) ?_
          refine AList.c 8 rfl rfl rfl (OpJ.assign rfl rfl) ?_
          refine AList.nil ?_
          refine AWp.region ?_
          refine AList.c 57 rfl rfl rfl (OpJ.move rfl rfl) ?_
          refine AList.c 58 rfl rfl rfl (OpJ.mul (m := ((10 * valD (r.take i) : Nat) : Int)) rfl rfl rfl ((i64ok ?_).trans ?_)) ?_
          · omega
          · omega
          refine AList.c 59 rfl rfl rfl (OpJ.move rfl rfl) ?_
          refine AList.c 60 rfl rfl rfl (OpJ.sub_ (m := ((b.toNat - 48 : Nat) : Int)) rfl rfl rfl ((i32ok ?_).trans ?_)) ?_
          · omega
          · omega
          refine AList.c 61 rfl rfl rfl (OpJ.convInt rfl rfl (by rw [un21]; rfl) un3 (i64ok ?_)) ?_
          · omega
          refine AList.c 62 rfl rfl rfl (OpJ.add (m := ((valD (r.take (i + 1)) : Nat) : Int)) rfl rfl rfl ((i64ok ?_).trans ?_)) ?_
          · omega
          · omega
          refine AList.c 2 rfl rfl rfl (OpJ.assign rfl rfl) ?_
          refine AList.nil ?_
          refine ⟨i + 1, ?_, ?_, ?_⟩
          · omega
          · omega
          exact To.done [0, 1] rfl (by repeat (first | exact Sub.nil | refine Sub.cons rfl ?_)) rfl
        · skip
          cases hc3
end Go.Proofs.YtplofbjppcbchaaDoor
end

section
set_option linter.unusedVariables false
set_option maxRecDepth 100000
set_option maxHeartbeats 4000000
set_option linter.unusedSimpArgs false
namespace Go.Proofs.YtplofbjppcbchaaDoor
open Go.AF
theorem span_ok (r : Bs) : ACallsR Tryd.prog 127 (.iface 124 (.agg [.int .i64 8])) 75 [] (r) ((spanP r).map fun x => (PV.agg x.1.cells, x.2)) := by
  refine ACallsP.start (N := 22) Tryd.func75 rfl rfl (Nat.le_of_ble_eq_true rfl) ?_
  refine AWp.seq ?_
  refine AWp.region ?_
  refine AList.c 2 rfl rfl rfl (OpJ.allocOwn rfl zr31 rfl) ?_
  refine AList.nil ?_
  refine AWp.seq ?_
  refine AWp.region ?_
  refine AList.c 4 rfl rfl rfl (OpJ.move rfl rfl) ?_
  refine AList.callR 5 0 (number_ok r) rfl rfl rfl rfl rfl rfl rfl rfl rf64 (fun h => ⟨_, rfl, (by have h2 := Option.map_eq_none_iff.1 h; unfold spanP; rw [h2]; rfl), rfl⟩) (fun q0 q1 hq => ?_)
  obtain ⟨⟨lo, r1⟩, hn1, hq2⟩ := Option.map_eq_some_iff.1 hq
  cases hq2
  refine AList.c 6 rfl rfl rfl (OpJ.build rfl bd31 rfl rfl) ?_
  refine AList.c 3 rfl rfl rfl (OpJ.allocOwn rfl zr31 rfl) ?_
  refine AList.c0 rfl rfl (OpJ.store rfl rfl rfl rfl rfl ty31 rfl rfl) ?_
  refine AList.nil ?_
  refine AWp.seq ?_
  refine AWp.region ?_
  refine AList.c 7 rfl rfl rfl (OpJ.fieldAddr rfl rfl fd31_0 rfl) ?_
  refine AList.c 8 rfl rfl rfl (OpJ.load (v := .p (.int .i64 lo)) rfl rfl ty3 rfl) ?_
  refine AList.c 9 rfl rfl rfl (OpJ.fieldAddr rfl rfl fd31_1 rfl) ?_
  refine AList.c0 rfl rfl (OpJ.store rfl rfl rfl rfl rfl ty3 rfl rfl) ?_
  refine AList.nil ?_
  refine AWp.seq ?_
  refine AWp.seq ?_
  refine AWp.region ?_
  refine AList.c 10 rfl rfl rfl (OpJ.move rfl rfl) ?_
  refine AList.callR 11 0 (is_ok [46, 46] r1) rfl rfl rfl rfl rfl rfl rfl rfl rf66 (fun h => by cases h) (fun q0 q1 hq => ?_)
  cases hq
  refine AList.nil ?_
  refine AWp.cond _ rfl (fun hc0 => ?_) (fun hc0 => ?_)
  · skip
    have hp : preB [46, 46] r1 = true := by rw [← isP_1]; exact hc0
    refine AWp.seq ?_
    refine AWp.region ?_
    refine AList.c 12 rfl rfl rfl (OpJ.move rfl rfl) ?_
    refine AList.callR 13 0 (number_ok (isP [46, 46] r1).2) rfl rfl rfl rfl rfl rfl rfl rfl rf64 (fun h => ⟨_, rfl, (by have h2 := Option.map_eq_none_iff.1 h; rw [isP_yes hp] at h2; unfold spanP; rw [hn1]; simp only [hp, if_true]; rw [show numP (r1.drop 2) = none from h2]; rfl), rfl⟩) (fun q0 q1 hq => ?_)
    obtain ⟨⟨hi, r2⟩, hn2, hq2⟩ := Option.map_eq_some_iff.1 hq
    cases hq2
    rw [isP_yes hp] at hn2
    refine AList.c 14 rfl rfl rfl (OpJ.fieldAddr rfl rfl fd31_1 rfl) ?_
    refine AList.c0 rfl rfl (OpJ.store rfl rfl rfl rfl rfl ty3 rfl rfl) ?_
    refine AList.nil ?_
    refine AWp.seq ?_
    refine AWp.region ?_
    refine AList.c 15 rfl rfl rfl (OpJ.fieldAddr rfl rfl fd31_1 rfl) ?_
    refine AList.c 16 rfl rfl rfl (OpJ.load (v := .p (.int .i64 hi)) rfl rfl ty3 rfl) ?_
    refine AList.c 17 rfl rfl rfl (OpJ.fieldAddr rfl rfl fd31_0 rfl) ?_
    refine AList.c 18 rfl rfl rfl (OpJ.load (v := .p (.int .i64 lo)) rfl rfl ty3 rfl) ?_
    refine AList.c 19 rfl rfl rfl (OpJ.eql rfl rfl rfl) ?_
    refine AList.nil ?_
    refine AWp.cond _ rfl (fun hc1 => ?_) (fun hc1 => ?_)
    · skip
      have hno : ((spanP r).map fun x => (PV.agg x.1.cells, x.2)) = none := by have he := of_decide_eq_true hc1; unfold spanP; rw [hn1]; simp only [hp, if_true]; rw [show numP (r1.drop 2) = some (hi, r2) from hn2]; simp only [he, if_true]; rfl
      refine AWp.region ?_
      refine AList.callFail 20 (fail_ok) rfl rfl rfl rfl rfl rfl rfl rf68 ⟨_, rfl, hno, rfl⟩
    · skip
      have hsome : ((spanP r).map fun x => (PV.agg x.1.cells, x.2)) = some (.agg [.int .i64 lo, .int .i64 hi], r2) := by have he := of_decide_eq_false hc1; unfold spanP; rw [hn1]; simp only [hp, if_true]; rw [show numP (r1.drop 2) = some (hi, r2) from hn2]; simp only [if_neg he]; rfl
      refine AWp.skip ?_
      refine AWp.seq ?_
      refine AWp.region ?_
      refine AList.c 21 rfl rfl rfl (OpJ.load (v := .p (.agg [.int .i64 lo, .int .i64 hi])) rfl rfl ty31 rfl) ?_
      refine AList.c0 rfl rfl (OpJ.store rfl rfl rfl rfl rfl ty31 rfl rfl) ?_
      refine AList.to ((To.freeze 1 rfl rfl).trans (To.done (H2 := [(rB 127 (r2))]) (S := [(2, _)]) [0] rfl (Sub.cons rfl Sub.nil) rfl)) ?_
      refine AList.nil ?_
      refine AWp.ret ?_
      exact FinOP.one rfl ⟨_, _, _, rfl, ty31, rfl⟩ ⟨_, _, hsome, rfl, rfl⟩
  · skip
    have hp : preB [46, 46] r1 = false := by rw [← isP_1]; exact hc0
    have hsome : ((spanP r).map fun x => (PV.agg x.1.cells, x.2)) = some (.agg [.int .i64 lo, .int .i64 lo], (isP [46, 46] r1).2) := by unfold spanP; rw [hn1, isP_no hp]; simp only [hp]; rfl
    refine AWp.skip ?_
    refine AWp.seq ?_
    refine AWp.region ?_
    refine AList.c 21 rfl rfl rfl (OpJ.load (v := .p (.agg [.int .i64 lo, .int .i64 lo])) rfl rfl ty31 rfl) ?_
    refine AList.c0 rfl rfl (OpJ.store rfl rfl rfl rfl rfl ty31 rfl rfl) ?_
    refine AList.to ((To.freeze 1 rfl rfl).trans (To.done (H2 := [(rB 127 ((isP [46, 46] r1).2))]) (S := [(2, _)]) [0] rfl (Sub.cons rfl Sub.nil) rfl)) ?_
    refine AList.nil ?_
    refine AWp.ret ?_
    exact FinOP.one rfl ⟨_, _, _, rfl, ty31, rfl⟩ ⟨_, _, hsome, rfl, rfl⟩
theorem octet_ok (r : Bs) : ACallsR Tryd.prog 127 (.iface 124 (.agg [.int .i64 8])) 77 [] (r) ((octP r).map fun x => (PV.int .i64 x.1, x.2)) := by
  refine ACallsP.start (N := 25) Tryd.func77 rfl rfl (Nat.le_of_ble_eq_true rfl) ?_
  refine AWp.seq ?_
  refine AWp.region ?_
  refine AList.c 2 rfl rfl rfl (OpJ.assign rfl rfl) ?_
  refine AList.nil ?_
  refine AWp.seq ?_
  refine AWp.seq ?_
  refine AWp.region ?_
  refine AList.c 4 rfl rfl rfl (OpJ.move rfl rfl) ?_
  refine AList.c 5 rfl rfl rfl (OpJ.nilCheck rfl rfl) ?_
  refine AList.c 6 rfl rfl rfl (OpJ.fieldAddr rfl rfl fd127_0 rfl) ?_
  refine AList.c 7 rfl rfl rfl (OpJ.load rfl rfl ty9 rfl) ?_
  refine AList.c 8 rfl rfl rfl (OpJ.strEq _ _ rfl rfl rfl) ?_
  refine AList.nil ?_
  refine AWp.cond _ rfl (fun hc0 => ?_) (fun hc0 => ?_)
  · skip
    have hno : ((octP r).map fun x => (PV.int .i64 x.1, x.2)) = none := by have h := of_decide_eq_true hc0; rw [show r = [] from h]; rfl
    refine AWp.region ?_
    refine AList.callFail 9 (fail_ok) rfl rfl rfl rfl rfl rfl rfl rf68 ⟨_, rfl, hno, rfl⟩
  · skip
    have hne := of_decide_eq_false hc0
    obtain ⟨b, t, rfl⟩ : ∃ b t, r = b :: t := by cases r with | nil => exact absurd rfl hne | cons b t => exact ⟨b, t, rfl⟩
    have hbl := b.toNat_lt
    refine AWp.skip ?_
    refine AWp.seq ?_
    refine AWp.region ?_
    refine AList.c 10 rfl rfl rfl (OpJ.move rfl rfl) ?_
    refine AList.c 11 rfl rfl rfl (OpJ.nilCheck rfl rfl) ?_
    refine AList.c 12 rfl rfl rfl (OpJ.fieldAddr rfl rfl fd127_0 rfl) ?_
    refine AList.c 13 rfl rfl rfl (OpJ.load rfl rfl ty9 rfl) ?_
    refine AList.c 14 rfl rfl rfl (OpJ.strIx (b :: t) 0 b rfl rfl rfl st9 rfl) ?_
    refine AList.c 3 rfl rfl rfl (OpJ.assign rfl rfl) ?_
    refine AList.nil ?_
    refine AWp.seq ?_
    refine AWp.region ?_
    refine AList.c 15 rfl rfl rfl (OpJ.move rfl rfl) ?_
    refine AList.c 16 rfl rfl rfl (OpJ.move rfl rfl) ?_
    refine AList.c 17 rfl rfl rfl (OpJ.nilCheck rfl rfl) ?_
    refine AList.c 18 rfl rfl rfl (OpJ.fieldAddr rfl rfl fd127_0 rfl) ?_
    refine AList.c 19 rfl rfl rfl (OpJ.load rfl rfl ty9 rfl) ?_
    refine AList.c 20 rfl rfl rfl (OpJ.strCut (b :: t) 1 (t.length + 1) rfl rfl st9 ⟨_, rfl⟩ rfl (by omega) (Nat.le_refl _)) ?_
    refine AList.c 21 rfl rfl rfl (OpJ.nilCheck rfl rfl) ?_
    refine AList.c 22 rfl rfl rfl (OpJ.fieldAddr rfl rfl fd127_0 rfl) ?_
    refine AList.c0 rfl rfl (OpJ.store rfl rfl rfl rfl rfl ty9 rfl rfl) ?_
    refine AList.nil ?_
    refine AWp.seq ?_
    refine AWp.region ?_
    refine AList.c 23 rfl rfl rfl (OpJ.move rfl rfl) ?_
    refine AList.c 24 rfl rfl rfl (OpJ.convInt rfl rfl (by rw [un5]; rfl) un3 (i64ok ?_)) ?_
    · omega
    refine AList.c 2 rfl rfl rfl (OpJ.assign rfl rfl) ?_
    refine AList.nil ?_
    refine AWp.ret ?_
    exact FinOP.one rfl rfl ⟨_, _, rfl, rfl, by show [Blk.cells [.p (.str (sB (t.take (t.length + 1 - 1))))] _] = _; rw [List.take_of_length_le (by omega)]; rfl⟩
theorem longR_ok (r : Bs) : ACallsR Tryd.prog 127 (.iface 124 (.agg [.int .i64 8])) 78 [] (r) ((longP r).map fun x => (PV.int .i64 x.1, x.2)) := by
  refine ACallsP.start (N := 27) Tryd.func78 rfl rfl (Nat.le_of_ble_eq_true rfl) ?_
  refine AWp.seq ?_
  refine AWp.region ?_
  refine AList.c 2 rfl rfl rfl (OpJ.assign rfl rfl) ?_
  refine AList.nil ?_
  refine AWp.seq ?_
  refine AWp.seq ?_
  refine AWp.region ?_
  refine AList.c 3 rfl rfl rfl (OpJ.assign rfl rfl) ?_
  refine AList.nil ?_
  refine AWp.block ?_
  refine AWp.loopHL [0] (fun g => [(3, .p (.int .i64 ((7 * g.1 : Nat) : Int))), (2, .p (.int .i64 ((g.2.1 : Nat) : Int)))]) (fun g => [(rB 127 (g.2.2))]) (fun g => g.1 ≤ 4 ∧ g.2.1 < 2 ^ (7 * g.1) ∧ longG 4 1 0 r = longG (4 - g.1) (2 ^ (7 * g.1)) g.2.1 g.2.2) (fun g => 4 - g.1) (0, 0, r) ⟨Nat.zero_le _, (by show 0 < 2 ^ 0; decide), rfl⟩ (To.sub (Sub.chk (Sub.cons rfl (Sub.cons rfl (Sub.nil))))) (fun g hg => ?_)
  obtain ⟨j, n, q⟩ := g
  obtain ⟨hj, hn, hlg⟩ := hg
  dsimp only at hj hn hlg ⊢
  refine AWp.seq ?_
  refine AWp.seq ?_
  refine AWp.region ?_
  refine AList.c 5 rfl rfl rfl (OpJ.move rfl rfl) ?_
  refine AList.c 6 rfl rfl rfl (OpJ.lss rfl rfl rfl) ?_
  refine AList.nil ?_
  refine AWp.cond _ rfl (fun hc0 => ?_) (fun hc0 => ?_)
  · skip
    have hj4 : j < 4 := by have h := of_decide_eq_true hc0; omega
    refine AWp.skip ?_
    refine AWp.seq ?_
    refine AWp.block ?_
    refine AWp.seq ?_
    refine AWp.region ?_
    refine AList.c 9 rfl rfl rfl (OpJ.move rfl rfl) ?_
    refine AList.callR 10 0 (octet_ok q) rfl rfl rfl rfl rfl rfl rfl rfl rf77 (fun h => ⟨_, rfl, lg_none hj4 hlg (Option.map_eq_none_iff.1 h), rfl⟩) (fun q0 q1 hq => ?_)
    obtain ⟨⟨c0, r1⟩, ho, hq2⟩ := Option.map_eq_some_iff.1 hq
    cases hq2
    obtain ⟨c, rfl, hcl, hqe⟩ := oct_some ho
    subst hqe
    have hp2 := pow7 hj4
    refine AList.c 4 rfl rfl rfl (OpJ.assign rfl rfl) ?_
    refine AList.nil ?_
    refine AWp.seq ?_
    refine AWp.region ?_
    refine AList.c 11 rfl rfl rfl (OpJ.move rfl rfl) ?_
    refine AList.c 12 rfl rfl rfl (OpJ.move rfl rfl) ?_
    refine AList.c 13 rfl rfl rfl (OpJ.cst (OpJ.andN c 127 rfl rfl rfl (by show _ ≤ (9223372036854775807 : Int); omega) (by decide)) (congrArg Nat.cast (and127 ⟨c, hcl⟩))) ?_
    refine AList.c 14 rfl rfl rfl (OpJ.move rfl rfl) ?_
    refine AList.c 15 rfl rfl rfl (OpJ.shlN (c % 128) (7 * j) rfl rfl rfl (by show 7 * j ≤ 64; omega) (by show _ ≤ (9223372036854775807 : Int); exact shl_fit hj4)) ?_
    refine AList.c 16 rfl rfl rfl (OpJ.cst (OpJ.orN n (c % 128 * 2 ^ (7 * j)) rfl rfl rfl (by show _ ≤ (9223372036854775807 : Int); have := pow7 hj4; omega) (by show _ ≤ (9223372036854775807 : Int); exact shl_fit hj4) (by rw [or_sh hn]; show _ ≤ (9223372036854775807 : Int); exact or_fit hj4 hn)) (congrArg Nat.cast (or_sh hn))) ?_
    refine AList.c 2 rfl rfl rfl (OpJ.assign rfl rfl) ?_
    refine AList.nil ?_
    refine AWp.seq ?_
    refine AWp.region ?_
    refine AList.c 17 rfl rfl rfl (OpJ.move rfl rfl) ?_
    refine AList.c 18 rfl rfl rfl (OpJ.lss rfl rfl rfl) ?_
    refine AList.nil ?_
    refine AWp.cond _ rfl (fun hc1 => ?_) (fun hc1 => ?_)
    · skip
      have hcc : c < 128 := by have h := of_decide_eq_true hc1; omega
      refine AWp.seq ?_
      refine AWp.seq ?_
      refine AWp.region ?_
      refine AList.c 19 rfl rfl rfl (OpJ.move rfl rfl) ?_
      refine AList.c 20 rfl rfl rfl (OpJ.eql rfl rfl rfl) ?_
      refine AList.c 21 rfl rfl rfl (OpJ.move rfl rfl) ?_
      refine AList.g 22 21 rfl rfl rfl rfl rfl rfl rfl [(3, _)] (fun h => And.intro (.inl rfl) (trivial)) (fun h => (OpJ.move rfl rfl)) ?_
      refine AList.g 23 21 rfl rfl rfl rfl rfl rfl rfl [(22, _)] (fun h => And.intro (.inr ⟨_, rfl, h⟩) (trivial)) (fun h => (OpJ.gtr rfl rfl rfl)) ?_
      refine AList.c 24 rfl rfl rfl (OpJ.and_ rfl rfl rfl ?_) ?_
      · first | (intro h; rw [h]; rfl) | (intro h; simp_all)
      refine AList.nil ?_
      refine AWp.cond _ rfl (fun hc2 => ?_) (fun hc2 => ?_)
      · skip
        have hno : ((longP r).map fun x => (PV.int .i64 x.1, x.2)) = none := lg_zero hj4 hcc hcl hlg hc2
        refine AWp.exit ?_
        refine AWp.seq ?_
        refine AWp.region ?_
        refine AList.callFail 26 (fail_ok) rfl rfl rfl rfl rfl rfl rfl rf68 ⟨_, rfl, hno, rfl⟩
      · skip
        have hsome := lg_done hj4 hcc hcl hlg hc2
        refine AWp.skip ?_
        refine AWp.seq ?_
        refine AWp.region ?_
        refine AList.c 25 rfl rfl rfl (OpJ.move rfl rfl) ?_
        refine AList.c 2 rfl rfl rfl (OpJ.assign rfl rfl) ?_
        refine AList.nil ?_
        refine AWp.ret ?_
        dsimp only [AX.inBlock, AX.then, FinOP]
        refine FinO.one rfl rfl ⟨_, _, hsome, ?_, rfl⟩
        rw [Nat.mod_eq_of_lt hcc]
    · skip
      have hcc : 128 ≤ c := by have h := of_decide_eq_false hc1; omega
      refine AWp.skip ?_
      refine AWp.region ?_
      refine AList.c 7 rfl rfl rfl (OpJ.move rfl rfl) ?_
      refine AList.c 8 rfl rfl rfl (OpJ.add rfl rfl rfl (i64ok ?_)) ?_
      · omega
      refine AList.c 3 rfl rfl rfl (OpJ.assign rfl rfl) ?_
      refine AList.nil ?_
      refine ⟨(j + 1, n + (c - 128) * 2 ^ (7 * j), r1), ?_, ?_, ?_⟩
      · exact ⟨by show j + 1 ≤ 4; omega, lg_lt hcl hcc hn, by rw [hlg]; exact lg_more hj4 hcc⟩
      · show 4 - (j + 1) < 4 - j
        omega
      exact To.done [0] rfl (Sub.cons (by show some (V.p (.int .i64 ((7 * j : Nat) + 7 : Int))) = some (V.p (.int .i64 ((7 * (j + 1) : Nat) : Int))); congr 3 <;> omega) (Sub.cons (by show some (V.p (.int .i64 ((n + (c % 128) * 2 ^ (7 * j) : Nat) : Int))) = _; rw [show c % 128 = c - 128 by omega]) (by repeat (first | exact Sub.nil | refine Sub.cons rfl ?_)))) rfl
  · skip
    have hno : ((longP r).map fun x => (PV.int .i64 x.1, x.2)) = none := lg_end hj (by have h := of_decide_eq_false hc0; omega) hlg
    refine AWp.exit ?_
    refine AWp.seq ?_
    refine AWp.region ?_
    refine AList.callFail 26 (fail_ok) rfl rfl rfl rfl rfl rfl rfl rf68 ⟨_, rfl, hno, rfl⟩
end Go.Proofs.YtplofbjppcbchaaDoor
end

section
set_option linter.unusedVariables false
set_option maxRecDepth 100000
set_option maxHeartbeats 4000000
set_option linter.unusedSimpArgs false
namespace Go.Proofs.YtplofbjppcbchaaDoor
open Go.AF
open Go.Proofs
theorem mul_ok (x y : Nat) (hx : x < 18446744073709551616) (hy : y < 18446744073709551616) : Pure Tryd.prog 83 [.int .u64 (x : Int), .int .u64 (y : Int)] (.tuple [.int .u64 ((x * y / 18446744073709551616 : Nat) : Int), .int .u64 ((x * y % 18446744073709551616 : Nat) : Int)]) :=
  Pure.ofGrow (us := [.int .u64 (x : Int), .int .u64 (y : Int)]) (fun w I vs h => by
    obtain ⟨u, us, rfl, h2, u2, us2, rfl, h3, h4⟩ := h
    have h2 : u = .int .u64 (x : Int) := h2
    have h3 : u2 = .int .u64 (y : Int) := h3
    have h4 : us2 = [] := h4
    rw [h2, h3, h4]) fun w I hg => (Any.bits_Mul Tryd.lays212 x y hx hy w).mono fun e w' ⟨h1, h2⟩ => ⟨_, h1, fun _ _ => ⟨_, rfl, _, _, rfl, rfl, _, _, rfl, rfl, rfl⟩, 0, #[], by rw [h2, Go.Sort.grow_empty]; rfl⟩
theorem repeat_ok (c : Int) (m : Nat) (hm : m ≤ 1000) : Pure Tryd.prog 67 [.is [.int .i64 c] 1, .int .i64 (m : Int)] (.is ((List.replicate m c).flatMap intC) m) := by
  refine Pure.start (N := 48) Tryd.func67 rfl rfl (Nat.le_of_ble_eq_true rfl) ?_
  refine AWp.seq ?_
  refine AWp.region ?_
  refine AList.c 4 rfl rfl rfl (OpJ.assign rfl rfl) ?_
  refine AList.nil ?_
  refine AWp.seq ?_
  refine AWp.seq ?_
  refine AWp.region ?_
  refine AList.c 9 rfl rfl rfl (OpJ.move rfl rfl) ?_
  refine AList.c 10 rfl rfl rfl (OpJ.lss rfl rfl rfl) ?_
  refine AList.nil ?_
  refine AWp.cond _ rfl (fun hc0 => ?_) (fun hc0 => ?_)
  · skip
    exfalso
    have h := of_decide_eq_true hc0
    omega
  · skip
    refine AWp.skip ?_
    refine AWp.seq ?_
    refine AWp.region ?_
    refine AList.c 13 rfl rfl rfl (OpJ.move rfl rfl) ?_
    refine AList.c 14 rfl rfl rfl (OpJ.lenSlice rfl rfl sl34 rfl) ?_
    refine AList.c 15 rfl rfl rfl (OpJ.convInt rfl rfl (by rw [un3]; rfl) un117 (u64ok ?_)) ?_
    · decide
    refine AList.c 16 rfl rfl rfl (OpJ.move rfl rfl) ?_
    refine AList.c 17 rfl rfl rfl (OpJ.convInt rfl rfl (by rw [un3]; rfl) un117 (u64ok ?_)) ?_
    · omega
    refine AList.c 18 rfl rfl rfl (OpJ.callP (mul_ok 1 m ?_ ?_) rfl rfl rfl rfl rf83) ?_
    · decide
    · omega
    refine AList.c 12 rfl rfl rfl (OpJ.move rfl rfl) ?_
    refine AList.c 19 rfl rfl rfl (OpJ.extract rfl rfl rfl) ?_
    refine AList.c 20 rfl rfl rfl (OpJ.extract rfl rfl rfl) ?_
    refine AList.c 5 rfl rfl rfl (OpJ.assign rfl rfl) ?_
    refine AList.c 6 rfl rfl rfl (OpJ.assign rfl rfl) ?_
    refine AList.nil ?_
    refine AWp.seq ?_
    refine AWp.seq ?_
    refine AWp.region ?_
    refine AList.c 21 rfl rfl rfl (OpJ.move rfl rfl) ?_
    refine AList.c 22 rfl rfl rfl (OpJ.gtr rfl rfl rfl) ?_
    refine AList.c 23 rfl rfl rfl (OpJ.move rfl rfl) ?_
    refine AList.g 24 23 rfl rfl rfl rfl rfl rfl rfl [(6, _)] (fun h => And.intro (.inl rfl) (trivial)) (fun h => (OpJ.move rfl rfl)) ?_
    refine AList.g 25 23 rfl rfl rfl rfl rfl rfl rfl [(24, _)] (fun h => And.intro (.inr ⟨_, rfl, h⟩) (trivial)) (fun h => (OpJ.gtr rfl rfl rfl)) ?_
    refine AList.c 26 rfl rfl rfl (OpJ.or_ rfl rfl rfl ?_) ?_
    · first | (intro h; rw [h]; rfl) | (intro h; simp_all)
    refine AList.nil ?_
    refine AWp.cond _ rfl (fun hc1 => ?_) (fun hc1 => ?_)
    · skip
      exfalso
      exact mul_no hm hc1
    · skip
      refine AWp.skip ?_
      refine AWp.seq ?_
      refine AWp.region ?_
      refine AList.c 28 rfl rfl rfl (OpJ.move rfl rfl) ?_
      refine AList.c 29 rfl rfl rfl (OpJ.convInt (m := ((m : Nat) : Int)) rfl rfl (by rw [un117]; rfl) un3 (by rw [IntKind.wrap_i64]; omega)) ?_
      refine AList.c 30 rfl rfl rfl (OpJ.makeSlice (n := m) (c := m) rfl rfl rfl slz34 by3 (by decide) (Nat.le_refl _) (by omega)) ?_
      refine AList.c 7 rfl rfl rfl (OpJ.assign rfl rfl) ?_
      refine AList.nil ?_
      refine AWp.seq ?_
      refine AWp.region ?_
      refine AList.c 31 rfl rfl rfl (OpJ.move rfl rfl) ?_
      refine AList.c 32 rfl rfl rfl (OpJ.move rfl rfl) ?_
      refine AList.c 33 rfl rfl rfl (OpJ.copyS (z := .int .i64 0) rfl rfl (.inr ⟨rfl, rfl⟩) rfl slz34 rfl rfl (by rw [rep_zero c m, repC_len c m 0 (Nat.zero_le _)]; omega) rfl) ?_
      refine AList.c 8 rfl rfl rfl (OpJ.assign rfl rfl) ?_
      refine AList.nil ?_
      refine AWp.seq ?_
      refine AWp.block ?_
      refine AWp.loopHL [4, 7, 47] (fun g => [(8, .p (.int .i64 ((g : Nat) : Int)))]) (fun g => [.row (repC c m g) 3]) (fun g => (1 ≤ g ∨ m = 0) ∧ g ≤ m) (fun g => m - g) (min 1 m) ⟨by omega, by omega⟩ (To.eqH (To.sub (Sub.chk (Sub.cons rfl Sub.nil))) (by show [Blk.row (setAt ((List.replicate m [PV.int .i64 0]).flatten.map V.p) 0 ([V.p (.int .i64 c)].take (min 1 m))) 3] = [Blk.row (repC c m (min 1 m)) 3]; rw [rep_zero c m, rep_first])) (fun n ⟨hnz, hn⟩ => ?_)
      refine AWp.seq ?_
      refine AWp.seq ?_
      refine AWp.region ?_
      refine AList.c 34 rfl rfl rfl (OpJ.move rfl rfl) ?_
      refine AList.c 35 rfl rfl rfl (OpJ.move rfl rfl) ?_
      refine AList.c 36 rfl rfl rfl (OpJ.lenSlice rfl rfl sl34 rfl) ?_
      refine AList.c 37 rfl rfl rfl (OpJ.lss rfl rfl rfl) ?_
      refine AList.nil ?_
      refine AWp.cond _ rfl (fun hc2 => ?_) (fun hc2 => ?_)
      · skip
        have hnm : n < m := by have h := of_decide_eq_true hc2; omega
        have hn1 : 1 ≤ n := by rcases hnz with h | h; exact h; omega
        refine AWp.skip ?_
        refine AWp.block ?_
        refine AWp.regionDrawG 8 0 [0] [([], false), ([], false), ([], false), ([0], false), ([], false), ([], false), ([0], false), ([0], true)] mixed (by kernel_rfl) (by decide) (by kernel_rfl) rfl (by show [Blk.row (renL _ (repC c m n)) _] = _; rw [repC_ren]) ?_
        refine AQG.cons 38 rfl rfl rfl (fun _ => (OpJ.move rfl rfl)) rfl ?_
        refine AQG.cons 39 rfl rfl rfl (fun _ => (OpJ.move rfl rfl)) rfl ?_
        refine AQG.cons 40 rfl rfl rfl (fun _ => (OpJ.move rfl rfl)) rfl ?_
        refine AQG.cons 41 rfl rfl rfl (fun _ => (OpJ.rowLo rfl rfl sl34 el34 ⟨_, rfl⟩ (by omega))) rfl ?_
        refine AQG.cons 42 rfl rfl rfl (fun _ => (OpJ.move rfl rfl)) rfl ?_
        refine AQG.cons 43 rfl rfl rfl (fun _ => (OpJ.move rfl rfl)) rfl ?_
        refine AQG.cons 44 rfl rfl rfl (fun _ => (OpJ.rowHi rfl rfl sl34 el34 ⟨_, rfl⟩ (by omega))) rfl ?_
        refine AQG.puts (blk := .row (setAt (repC c m n) (n * 1) (((repC c m n).take (n * 1)).take (min n (m - n)))) 3) (v := .p (.int .i64 ((min n (m - n) : Nat) : Int))) 45 0 rfl rfl rfl rfl rfl (fun _ => (OpJ.copyS (z := .int .i64 0) (i := 0) (e := 3) (cs := repC c m n) (ys := (repC c m n).take (n * 1)) (off := n * 1) (len := m - n) (n := n) rfl rfl (.inl rfl) rfl slz34 rfl (rep_src hn) (by rw [repC_len c m n hn]; omega) (rep_one c m n))) rfl (by show Blk.row (renL _ (setAt (repC c m n) (n * 1) (((repC c m n).take (n * 1)).take (min n (m - n))))) 3 = _; rw [Nat.mul_one, rep_set hn, repC_ren]) ?_
        refine AQG.nil ?_
        refine AList.c 46 rfl rfl rfl (OpJ.add (m := ((n + min n (m - n) : Nat) : Int)) rfl rfl rfl ((i64ok ?_).trans ?_)) ?_
        · omega
        · omega
        refine AList.c 8 rfl rfl rfl (OpJ.assign rfl rfl) ?_
        refine AList.nil ?_
        refine ⟨n + min n (m - n), ?_, ?_, ?_⟩
        · exact ⟨by omega, by omega⟩
        · show m - (n + min n (m - n)) < m - n
          omega
        exact To.done [0] rfl (by repeat (first | exact Sub.nil | refine Sub.cons rfl ?_)) (by show [Blk.row (renL _ (setAt (repC c m n) (n * 1) (((repC c m n).take (n * 1)).take (min n (m - n))))) 3] = _; rw [Nat.mul_one, rep_set hn, repC_ren])
      · skip
        have hnm : n = m := by have h := of_decide_eq_false hc2; omega
        subst hnm
        refine AWp.exit ?_
        refine AWp.seq ?_
        refine AWp.region ?_
        refine AList.c 47 rfl rfl rfl (OpJ.move rfl rfl) ?_
        refine AList.c 4 rfl rfl rfl (OpJ.assign rfl rfl) ?_
        refine AList.nil ?_
        refine AWp.freeze 0 rfl (rep_all c _) ?_
        refine AWp.ret ?_
        exact Fin.oneE rfl rfl rfl
end Go.Proofs.YtplofbjppcbchaaDoor
end

section
set_option linter.unusedVariables false
set_option maxRecDepth 100000
set_option maxHeartbeats 4000000
set_option linter.unusedSimpArgs false
namespace Go.Proofs.YtplofbjppcbchaaDoor
open Go.AF
theorem report_ok (r : Bs) (hr : r.length ≤ 65536) : ACallsR Tryd.prog 127 (.iface 124 (.agg [.int .i64 8])) 42 [] (r) ((rptR r).map fun x => (PV.agg x.1.cells, x.2)) := by
  refine ACallsP.start (N := 40) Tryd.func42 rfl rfl (Nat.le_of_ble_eq_true rfl) ?_
  refine AWp.seq ?_
  refine AWp.region ?_
  refine AList.c 2 rfl rfl rfl (OpJ.allocOwn rfl zr33 rfl) ?_
  refine AList.nil ?_
  refine AWp.seq ?_
  refine AWp.region ?_
  refine AList.c 4 rfl rfl rfl (OpJ.move rfl rfl) ?_
  refine AList.callR 5 0 (want_ok batT r) rfl rfl rfl rfl rfl rfl rfl rfl rf65 (fun h => ⟨_, rfl, (by have hz := Option.map_eq_none_iff.1 h; unfold rptR; simp only [show _ = none from hz, Option.bind_some, Option.bind_none]; rfl), rfl⟩) (fun q0 q1 hq => ?_)
  obtain ⟨r1, h1, hq2⟩ := Option.map_eq_some_iff.1 hq
  obtain ⟨rfl, rfl⟩ := Prod.mk.inj hq2
  refine AList.nil ?_
  refine AWp.seq ?_
  refine AWp.region ?_
  refine AList.c 6 rfl rfl rfl (OpJ.move rfl rfl) ?_
  refine AList.callR 7 0 (number_ok r1) rfl rfl rfl rfl rfl rfl rfl rfl rf64 (fun h => ⟨_, rfl, (by have hz := Option.map_eq_none_iff.1 h; unfold rptR; simp only [h1, show _ = none from hz, Option.bind_some, Option.bind_none]; rfl), rfl⟩) (fun q0 q1 hq => ?_)
  obtain ⟨⟨b, r2⟩, h2, hq2⟩ := Option.map_eq_some_iff.1 hq
  cases hq2
  refine AList.c 8 rfl rfl rfl (OpJ.fieldAddr rfl rfl fd33_0 rfl) ?_
  refine AList.c0 rfl rfl (OpJ.store (H' := [(rB 127 (r2)), .cells [.p (.int .i64 b), .p .nilSlice, .p (.int .i64 0), .p (.int .i64 0), .p (.int .i64 0), .p (.int .i64 0)] 33]) rfl rfl rfl rfl rfl ty3 rfl rfl) ?_
  refine AList.nil ?_
  refine AWp.seq ?_
  refine AWp.region ?_
  refine AList.c 9 rfl rfl rfl (OpJ.move rfl rfl) ?_
  refine AList.callR 10 0 (want_ok strT r2) rfl rfl rfl rfl rfl rfl rfl rfl rf65 (fun h => ⟨_, rfl, (by have hz := Option.map_eq_none_iff.1 h; unfold rptR; simp only [h1, h2, show _ = none from hz, Option.bind_some, Option.bind_none]; rfl), rfl⟩) (fun q0 q1 hq => ?_)
  obtain ⟨r3, h3, hq2⟩ := Option.map_eq_some_iff.1 hq
  obtain ⟨rfl, rfl⟩ := Prod.mk.inj hq2
  refine AList.nil ?_
  refine AWp.seq ?_
  refine AWp.region ?_
  refine AList.c 11 rfl rfl rfl (OpJ.move rfl rfl) ?_
  refine AList.callR 12 0 (span_ok r3) rfl rfl rfl rfl rfl rfl rfl rfl rf75 (fun h => ⟨_, rfl, (by have hz := Option.map_eq_none_iff.1 h; unfold rptR; simp only [h1, h2, h3, show _ = none from hz, Option.bind_some, Option.bind_none]; rfl), rfl⟩) (fun q0 q1 hq => ?_)
  obtain ⟨⟨st, r4⟩, h4, hq2⟩ := Option.map_eq_some_iff.1 hq
  cases hq2
  refine AList.c 13 rfl rfl rfl (OpJ.fieldAddr rfl rfl fd33_2 rfl) ?_
  refine AList.c0 rfl rfl (OpJ.store (H' := [(rB 127 (r4)), .cells [.p (.int .i64 b), .p .nilSlice, .p (.int .i64 st.lo), .p (.int .i64 st.hi), .p (.int .i64 0), .p (.int .i64 0)] 33]) rfl rfl rfl rfl rfl ty31 rfl rfl) ?_
  refine AList.nil ?_
  refine AWp.seq ?_
  refine AWp.region ?_
  refine AList.c 14 rfl rfl rfl (OpJ.move rfl rfl) ?_
  refine AList.callR 15 0 (want_ok weaT r4) rfl rfl rfl rfl rfl rfl rfl rfl rf65 (fun h => ⟨_, rfl, (by have hz := Option.map_eq_none_iff.1 h; unfold rptR; simp only [h1, h2, h3, h4, show _ = none from hz, Option.bind_some, Option.bind_none]; rfl), rfl⟩) (fun q0 q1 hq => ?_)
  obtain ⟨r5, h5, hq2⟩ := Option.map_eq_some_iff.1 hq
  obtain ⟨rfl, rfl⟩ := Prod.mk.inj hq2
  refine AList.nil ?_
  refine AWp.seq ?_
  refine AWp.region ?_
  refine AList.c 16 rfl rfl rfl (OpJ.move rfl rfl) ?_
  refine AList.callR 17 0 (span_ok r5) rfl rfl rfl rfl rfl rfl rfl rfl rf75 (fun h => ⟨_, rfl, (by have hz := Option.map_eq_none_iff.1 h; unfold rptR; simp only [h1, h2, h3, h4, h5, show _ = none from hz, Option.bind_some, Option.bind_none]; rfl), rfl⟩) (fun q0 q1 hq => ?_)
  obtain ⟨⟨we, r6⟩, h6, hq2⟩ := Option.map_eq_some_iff.1 hq
  cases hq2
  refine AList.c 18 rfl rfl rfl (OpJ.fieldAddr rfl rfl fd33_3 rfl) ?_
  refine AList.c0 rfl rfl (OpJ.store (H' := [(rB 127 (r6)), .cells [.p (.int .i64 b), .p .nilSlice, .p (.int .i64 st.lo), .p (.int .i64 st.hi), .p (.int .i64 we.lo), .p (.int .i64 we.hi)] 33]) rfl rfl rfl rfl rfl ty31 rfl rfl) ?_
  refine AList.nil ?_
  refine AWp.seq ?_
  refine AWp.region ?_
  refine AList.c 19 rfl rfl rfl (OpJ.move rfl rfl) ?_
  refine AList.callR 20 0 (want_ok [10] r6) rfl rfl rfl rfl rfl rfl rfl rfl rf65 (fun h => ⟨_, rfl, (by have hz := Option.map_eq_none_iff.1 h; unfold rptR; simp only [h1, h2, h3, h4, h5, h6, show _ = none from hz, Option.bind_some, Option.bind_none]; rfl), rfl⟩) (fun q0 q1 hq => ?_)
  obtain ⟨r7, h7, hq2⟩ := Option.map_eq_some_iff.1 hq
  obtain ⟨rfl, rfl⟩ := Prod.mk.inj hq2
  have g7 : r7.length ≤ r.length := by have := want_len h1; have := num_len h2; have := want_len h3; have := span_len h4; have := want_len h5; have := span_len h6; have := want_len h7; omega
  refine AList.nil ?_
  refine AWp.seq ?_
  refine AWp.block ?_
  refine AWp.loopHL [0, 2, 39] (fun g => []) (fun g => [(rB 127 (g.2)), .cells [.p (.int .i64 b), accV 2 g.1.length, .p (.int .i64 st.lo), .p (.int .i64 st.hi), .p (.int .i64 we.lo), .p (.int .i64 we.hi)] 33, accB ((g.1.flatMap Stk.cells).map .p) 65 g.1.length]) (fun g => g.1.length + g.2.length ≤ 65536 ∧ RptI r b st we g.1 g.2) (fun g => g.2.length) ([], r7) ⟨by show 0 + r7.length ≤ 65536; omega, rptI_0 h1 h2 h3 h4 h5 h6 h7⟩ (To.pad.trans (To.sub (Sub.chk Sub.nil))) (fun g hg => ?_)
  obtain ⟨acc, q⟩ := g
  obtain ⟨hq, hI⟩ := hg
  dsimp only at hq hI ⊢
  refine AWp.seq ?_
  refine AWp.seq ?_
  refine AWp.region ?_
  refine AList.c 21 rfl rfl rfl (OpJ.move rfl rfl) ?_
  refine AList.callR 22 0 (is_ok skT q) rfl rfl rfl rfl rfl rfl rfl rfl rf66 (fun h => by cases h) (fun q0 q1 hq => ?_)
  cases hq
  refine AList.nil ?_
  refine AWp.cond _ rfl (fun hc0 => ?_) (fun hc0 => ?_)
  · skip
    have hp : preB skT q = true := by rw [← isP_1]; exact hc0
    have e7 : (isP skT q).2 = q.drop 7 := by rw [isP_yes hp]; rfl
    refine AWp.skip ?_
    refine AWp.block ?_
    refine AWp.seq ?_
    refine AWp.region ?_
    refine AList.c 3 rfl rfl rfl (OpJ.allocOwn rfl zr65 rfl) ?_
    refine AList.nil ?_
    refine AWp.seq ?_
    refine AWp.region ?_
    refine AList.c 23 rfl rfl rfl (OpJ.move rfl rfl) ?_
    refine AList.callR 24 0 (span_ok (isP skT q).2) rfl rfl rfl rfl rfl rfl rfl rfl rf75 (fun h => ⟨_, rfl, (rptI_fail hI hp (by have hz := Option.map_eq_none_iff.1 h; rw [e7] at hz; unfold stkR; simp only [show _ = none from hz, Option.bind_some, Option.bind_none, Option.map_none])), rfl⟩) (fun q0 q1 hq => ?_)
    obtain ⟨⟨a, q1⟩, k1, hq2⟩ := Option.map_eq_some_iff.1 hq
    cases hq2
    rw [e7] at k1
    refine AList.c 25 rfl rfl rfl (OpJ.fieldAddr rfl rfl fd65_0 rfl) ?_
    refine AList.c0 rfl rfl (OpJ.store rfl rfl rfl rfl rfl ty31 rfl rfl) ?_
    refine AList.nil ?_
    refine AWp.seq ?_
    refine AWp.region ?_
    refine AList.c 26 rfl rfl rfl (OpJ.move rfl rfl) ?_
    refine AList.callR 27 0 (want_ok [32, 111, 110, 32] q1) rfl rfl rfl rfl rfl rfl rfl rfl rf65 (fun h => ⟨_, rfl, (rptI_fail hI hp (by have hz := Option.map_eq_none_iff.1 h;  unfold stkR; simp only [k1, show _ = none from hz, Option.bind_some, Option.bind_none, Option.map_none])), rfl⟩) (fun q0 q1 hq => ?_)
    obtain ⟨q2, k2, hq2⟩ := Option.map_eq_some_iff.1 hq
    obtain ⟨rfl, rfl⟩ := Prod.mk.inj hq2
    refine AList.nil ?_
    refine AWp.seq ?_
    refine AWp.region ?_
    refine AList.c 28 rfl rfl rfl (OpJ.move rfl rfl) ?_
    refine AList.callR 29 0 (span_ok q2) rfl rfl rfl rfl rfl rfl rfl rfl rf75 (fun h => ⟨_, rfl, (rptI_fail hI hp (by have hz := Option.map_eq_none_iff.1 h;  unfold stkR; simp only [k1, k2, show _ = none from hz, Option.bind_some, Option.bind_none, Option.map_none])), rfl⟩) (fun q0 q1 hq => ?_)
    obtain ⟨⟨e, q3⟩, k3, hq2⟩ := Option.map_eq_some_iff.1 hq
    cases hq2
    refine AList.c 30 rfl rfl rfl (OpJ.fieldAddr rfl rfl fd65_1 rfl) ?_
    refine AList.c0 rfl rfl (OpJ.store rfl rfl rfl rfl rfl ty31 rfl rfl) ?_
    refine AList.nil ?_
    refine AWp.seq ?_
    refine AWp.region ?_
    refine AList.c 31 rfl rfl rfl (OpJ.move rfl rfl) ?_
    refine AList.callR 32 0 (want_ok [10] q3) rfl rfl rfl rfl rfl rfl rfl rfl rf65 (fun h => ⟨_, rfl, (rptI_fail hI hp (by have hz := Option.map_eq_none_iff.1 h;  unfold stkR; simp only [k1, k2, k3, show _ = none from hz, Option.bind_some, Option.bind_none, Option.map_none])), rfl⟩) (fun q0 q1 hq => ?_)
    obtain ⟨q4, k4, hq2⟩ := Option.map_eq_some_iff.1 hq
    obtain ⟨rfl, rfl⟩ := Prod.mk.inj hq2
    have hsk := stkR_some k1 k2 k3 k4
    have gsk := stkR_len hsk
    rw [List.length_drop] at gsk
    refine AList.nil ?_
    refine AWp.region ?_
    refine AList.c 33 rfl rfl rfl (OpJ.fieldAddr rfl rfl fd33_1 rfl) ?_
    refine AList.c 34 rfl rfl rfl (OpJ.load (v := accV 2 acc.length) rfl rfl ty29 rfl) ?_
    refine AList.c 35 rfl rfl rfl (OpJ.load (v := .p (.agg (Stk.mk a e).cells)) rfl rfl ty65 rfl) ?_
    refine AList.c 36 rfl rfl rfl (OpJ.buildImm rfl slz29 (by decide) rfl rfl rfl) ?_
    refine AList.c 37 rfl rfl rfl (OpJ.appendAcc rfl rfl rfl slz29 sl29 rfl ?_ rfl (by decide) rfl by65 (by decide) ?_) ?_
    · rw [List.length_map, Go.AF.flat_len (c := 4) (fun _ => rfl)]; rfl
    · show (2 * (acc.length + 1) + 192) * 32 ≤ 281474976710656; omega
    refine AList.c 38 rfl rfl rfl (OpJ.fieldAddr rfl rfl fd33_1 rfl) ?_
    refine AList.c0 rfl rfl (OpJ.store rfl rfl rfl rfl rfl ty29 rfl rfl) ?_
    refine AList.nil ?_
    refine ⟨(acc ++ [⟨a, e⟩], q4), ?_, ?_, ?_⟩
    · exact ⟨by rw [List.length_append]; show acc.length + 1 + q4.length ≤ 65536; omega, rptI_step hI hp hsk⟩
    · show q4.length < q.length
      omega
    have eLn : (acc ++ [Stk.mk a e]).length = acc.length + 1 := by rw [List.length_append]; rfl
    have eL : (acc ++ [Stk.mk a e]).flatMap Stk.cells = acc.flatMap Stk.cells ++ (Stk.mk a e).cells := by rw [List.flatMap_append]; simp
    dsimp only
    rw [eLn, eL]
    refine To.done [0, 1, 4] rfl (by repeat (first | exact Sub.nil | refine Sub.cons rfl ?_)) ?_
    show (_ : Blk) :: _ :: [_] = _ :: _ :: [_]
    refine List.cons_eq_cons.2 ⟨rfl, List.cons_eq_cons.2 ⟨rfl, ?_⟩⟩
    show [Blk.row (renL _ (_ ++ _)) _] = [Blk.row _ _]
    rw [renL_app, renL_pure, List.map_append]
    rfl
  · skip
    have hp : preB skT q = false := by rw [← isP_1]; exact hc0
    refine AWp.to (To.accC 2 1 (xs := acc.flatMap Stk.cells) (n := acc.length) (a := [.int .i64 b]) (b := [.int .i64 st.lo, .int .i64 st.hi, .int .i64 we.lo, .int .i64 we.hi]) [(0, .ptr 0 0), (2, .ptr 1 0)] (by decide) rfl rfl (fun h => by rw [List.length_eq_zero_iff.1 h]; rfl) rfl rfl (by repeat (first | exact Sub.nil | refine Sub.cons rfl ?_)) (by repeat (first | exact Sub.nil | refine Sub.cons rfl ?_))) ?_
    refine AWp.exit ?_
    refine AWp.seq ?_
    refine AWp.region ?_
    refine AList.c 39 rfl rfl rfl (OpJ.load (v := .p (.agg (Rpt.mk b acc st we).cells)) rfl rfl ty33 rfl) ?_
    refine AList.c0 rfl rfl (OpJ.store rfl rfl rfl rfl rfl ty33 rfl rfl) ?_
    refine AList.to ((To.freeze 1 rfl rfl).trans (To.done (H2 := [(rB 127 ((isP skT q).2))]) (S := [(2, _)]) [0] rfl (Sub.cons rfl Sub.nil) rfl)) ?_
    refine AList.nil ?_
    refine AWp.ret ?_
    exact FinOP.one rfl ⟨_, _, _, rfl, ty33, rfl⟩ ⟨_, _, rptI_end hI hp, rfl, by show [rB _ _] = [rB _ _]; rw [isP_no hp]⟩
end Go.Proofs.YtplofbjppcbchaaDoor
end

section
set_option linter.unusedVariables false
set_option maxRecDepth 100000
set_option maxHeartbeats 4000000
set_option linter.unusedSimpArgs false
namespace Go.Proofs.YtplofbjppcbchaaDoor
open Go.AF
theorem cards_ok (r : Bs) (hr : r.length ≤ 65536) : ACallsR Tryd.prog 127 (.iface 124 (.agg [.int .i64 8])) 45 [] (r) ((crdsR r).map fun x => (crdsV x.1, x.2)) := by
  refine ACallsP.start (N := 60) Tryd.func45 rfl rfl (Nat.le_of_ble_eq_true rfl) ?_
  refine AWp.seq ?_
  refine AWp.region ?_
  refine AList.c 2 rfl rfl rfl (OpJ.assign rfl rfl) ?_
  refine AList.nil ?_
  refine AWp.seq ?_
  refine AWp.region ?_
  refine AList.c 7 rfl rfl rfl (OpJ.move rfl rfl) ?_
  refine AList.callR 8 0 (octet_ok r) rfl rfl rfl rfl rfl rfl rfl rfl rf77 (fun h => ⟨_, rfl, (by have hz := Option.map_eq_none_iff.1 h; unfold crdsR; simp only [show _ = none from hz, Option.bind_some, Option.bind_none]; rfl), rfl⟩) (fun q0 q1 hq => ?_)
  obtain ⟨⟨a, r1⟩, h1, hq2⟩ := Option.map_eq_some_iff.1 hq
  cases hq2
  obtain ⟨a, rfl, ha, e1⟩ := oct_some2 h1
  refine AList.c 9 rfl rfl rfl (OpJ.convInt rfl rfl (by rw [un3]; rfl) un5 (u8ok ?_)) ?_
  · omega
  refine AList.c 10 rfl rfl rfl (OpJ.move rfl rfl) ?_
  refine AList.callR 11 0 (octet_ok r1) rfl rfl rfl rfl rfl rfl rfl rfl rf77 (fun h => ⟨_, rfl, (by have hz := Option.map_eq_none_iff.1 h; unfold crdsR; simp only [h1, show _ = none from hz, Option.bind_some, Option.bind_none]; rfl), rfl⟩) (fun q0 q1 hq => ?_)
  obtain ⟨⟨b, r2⟩, h2, hq2⟩ := Option.map_eq_some_iff.1 hq
  cases hq2
  obtain ⟨b, rfl, hb, e2⟩ := oct_some2 h2
  refine AList.c 12 rfl rfl rfl (OpJ.convInt rfl rfl (by rw [un3]; rfl) un5 (u8ok ?_)) ?_
  · omega
  refine AList.c 13 rfl rfl rfl (OpJ.move rfl rfl) ?_
  refine AList.callR 14 0 (octet_ok r2) rfl rfl rfl rfl rfl rfl rfl rfl rf77 (fun h => ⟨_, rfl, (by have hz := Option.map_eq_none_iff.1 h; unfold crdsR; simp only [h1, h2, show _ = none from hz, Option.bind_some, Option.bind_none]; rfl), rfl⟩) (fun q0 q1 hq => ?_)
  obtain ⟨⟨c, r3⟩, h3, hq2⟩ := Option.map_eq_some_iff.1 hq
  cases hq2
  obtain ⟨c, rfl, hc, e3⟩ := oct_some2 h3
  refine AList.c 15 rfl rfl rfl (OpJ.convInt rfl rfl (by rw [un3]; rfl) un5 (u8ok ?_)) ?_
  · omega
  refine AList.c 16 rfl rfl rfl (OpJ.build rfl bd68 rfl rfl) ?_
  refine AList.c 3 rfl rfl rfl (OpJ.allocOwn rfl zr68 rfl) ?_
  refine AList.c0 rfl rfl (OpJ.store rfl rfl rfl rfl rfl ty68 rfl rfl) ?_
  refine AList.nil ?_
  refine AWp.seq ?_
  refine AWp.region ?_
  refine AList.c 17 rfl rfl rfl (OpJ.move rfl rfl) ?_
  refine AList.callR 18 0 (octet_ok r3) rfl rfl rfl rfl rfl rfl rfl rfl rf77 (fun h => ⟨_, rfl, (by have hz := Option.map_eq_none_iff.1 h; unfold crdsR; simp only [h1, h2, h3, show _ = none from hz, Option.bind_some, Option.bind_none]; rfl), rfl⟩) (fun q0 q1 hq => ?_)
  obtain ⟨⟨m, r4⟩, h4, hq2⟩ := Option.map_eq_some_iff.1 hq
  cases hq2
  obtain ⟨m, rfl, hm, e4⟩ := oct_some2 h4
  refine AList.c 4 rfl rfl rfl (OpJ.assign rfl rfl) ?_
  refine AList.nil ?_
  refine AWp.seq ?_
  refine AWp.seq ?_
  refine AWp.regionDraw 7 mixed (by kernel_rfl) (by decide) ?_
  refine AQuiet.cons 19 rfl rfl rfl (OpJ.load rfl rfl ty68 rfl) ?_
  refine AQuiet.cons 20 rfl rfl rfl (OpJ.callP (head_ok) rfl rfl rfl rfl rf24) ?_
  refine AQuiet.cons 21 rfl rfl rfl (OpJ.eqAgg (d := 8) rfl (.inr rfl) rfl rfl (by decide) eq68 ty68 rfl eg68 rfl) ?_
  refine AQuiet.cons 22 rfl rfl rfl (OpJ.move rfl rfl) ?_
  refine AQuiet.guard 23 22 rfl rfl rfl rfl rfl rfl rfl [(4, _)] (fun h => And.intro (.inl rfl) (trivial)) (fun h => (OpJ.move rfl rfl)) ?_
  refine AQuiet.guard 24 22 rfl rfl rfl rfl rfl rfl rfl [(23, _)] (fun h => And.intro (.inr ⟨_, rfl, h⟩) (trivial)) (fun h => (OpJ.gtr rfl rfl rfl)) ?_
  refine AQuiet.cons 25 rfl rfl rfl (OpJ.or_ rfl rfl rfl ?_) ?_
  · first | (intro h; rw [h]; rfl) | (intro h; simp_all)
  refine AQuiet.nil ?_
  refine AList.nil ?_
  refine AWp.cond _ rfl (fun hc0 => ?_) (fun hc0 => ?_)
  · skip
    have hno : ((crdsR r).map fun x => (crdsV x.1, x.2)) = none := crds_head h1 h2 h3 h4 (fun h => by have := (crd_hd (a := (a : Int)) (b := (b : Int)) (c := (c : Int)) (m := (m : Int)) hc0).1 h; cases this)
    refine AWp.region ?_
    refine AList.callFail 26 (fail_ok) rfl rfl rfl rfl rfl rfl rfl rf68 ⟨_, rfl, hno, rfl⟩
  · skip
    obtain ⟨hh, hm40⟩ := (crd_hd (a := (a : Int)) (b := (b : Int)) (c := (c : Int)) (m := (m : Int)) hc0).2 rfl
    have hm40 : m ≤ 40 := by omega
    refine AWp.skip ?_
    refine AWp.seq ?_
    refine AWp.norm [0] [(0, _), (2, _), (4, _)] [(rB 127 (r4))] rfl (by repeat (first | exact Sub.nil | refine Sub.cons rfl ?_)) rfl ?_
    refine AWp.region ?_
    refine AList.c 5 rfl rfl rfl (OpJ.assign rfl rfl) ?_
    refine AList.nil ?_
    refine AWp.seq ?_
    refine AWp.seq ?_
    refine AWp.region ?_
    refine AList.c 27 rfl rfl rfl (OpJ.move rfl rfl) ?_
    refine AList.c 28 rfl rfl rfl (OpJ.move rfl rfl) ?_
    refine AList.nil ?_
    refine AWp.block ?_
    refine AWp.loopHL [0, 27, 51, 53, 54, 55, 56, 57, 59] (fun g => [(28, .p (.int .i64 ((g.1.length : Nat) : Int))), (5, .p (.int .i64 g.2.1)), (2, accV 1 g.1.length)]) (fun g => [(rB 127 (g.2.2)), accB ((g.1.flatMap Crd.cells).map .p) 76 g.1.length]) (fun g => g.1.length ≤ m ∧ 0 ≤ g.2.1 ∧ g.2.1 ≤ 268435456 * (g.1.length : Int) ∧ CrdI r m g.2.1 g.1 g.2.2) (fun g => m - g.1.length) ([], 0, r4) ⟨Nat.zero_le _, Int.le_refl _, Int.le_refl _, crdI_0 h1 h2 h3 h4 hh hm40⟩ (To.pad.trans (To.sub (Sub.chk (Sub.cons rfl (Sub.cons rfl (Sub.cons rfl Sub.nil)))))) (fun g hg => ?_)
    obtain ⟨acc, next, q⟩ := g
    obtain ⟨hq, hn0, hn1, hI⟩ := hg
    dsimp only at hq hn0 hn1 hI ⊢
    refine AWp.seq ?_
    refine AWp.region ?_
    refine AList.c 29 rfl rfl rfl (OpJ.lss rfl rfl rfl) ?_
    refine AList.nil ?_
    refine AWp.seq ?_
    refine AWp.cond _ rfl (fun hc1 => ?_) (fun hc1 => ?_)
    · skip
      have hk0 : acc.length < m := by have h := of_decide_eq_true hc1; omega
      refine AWp.skip ?_
      refine AWp.seq ?_
      refine AWp.block ?_
      refine AWp.seq ?_
      refine AWp.region ?_
      refine AList.c 30 rfl rfl rfl (OpJ.move rfl rfl) ?_
      refine AList.c 31 rfl rfl rfl (OpJ.move rfl rfl) ?_
      refine AList.callR 32 0 (longR_ok q) rfl rfl rfl rfl rfl rfl rfl rfl rf78 (fun h => ⟨_, rfl, (crdI_fail hI hk0 (by have hz := Option.map_eq_none_iff.1 h; unfold crdR; simp only [show _ = none from hz, Option.bind_some, Option.bind_none, Option.map_none])), rfl⟩) (fun q0 q1 hq => ?_)
      obtain ⟨⟨x, q1⟩, k1, hq2⟩ := Option.map_eq_some_iff.1 hq
      cases hq2
      obtain ⟨x, rfl, hx, f1⟩ := longP_spec k1
      refine AList.c 33 rfl rfl rfl (OpJ.add rfl rfl rfl (i64ok ?_)) ?_
      · omega
      refine AList.c 34 rfl rfl rfl (OpJ.move rfl rfl) ?_
      refine AList.callR 35 0 (longR_ok q1) rfl rfl rfl rfl rfl rfl rfl rfl rf78 (fun h => ⟨_, rfl, (crdI_fail hI hk0 (by have hz := Option.map_eq_none_iff.1 h; unfold crdR; simp only [k1, show _ = none from hz, Option.bind_some, Option.bind_none, Option.map_none])), rfl⟩) (fun q0 q1 hq => ?_)
      obtain ⟨⟨y, q2⟩, k2, hq2⟩ := Option.map_eq_some_iff.1 hq
      cases hq2
      obtain ⟨y, rfl, hy, f2⟩ := longP_spec k2
      refine AList.c 36 rfl rfl rfl (OpJ.move rfl rfl) ?_
      refine AList.callR 37 0 (octet_ok q2) rfl rfl rfl rfl rfl rfl rfl rfl rf77 (fun h => ⟨_, rfl, (crdI_fail hI hk0 (by have hz := Option.map_eq_none_iff.1 h; unfold crdR; simp only [k1, k2, show _ = none from hz, Option.bind_some, Option.bind_none, Option.map_none])), rfl⟩) (fun q0 q1 hq => ?_)
      obtain ⟨⟨z, q3⟩, k3, hq2⟩ := Option.map_eq_some_iff.1 hq
      cases hq2
      obtain ⟨z, rfl, hz, f3⟩ := oct_some2 k3
      refine AList.c 38 rfl rfl rfl (OpJ.move rfl rfl) ?_
      refine AList.callR 39 0 (octet_ok q3) rfl rfl rfl rfl rfl rfl rfl rfl rf77 (fun h => ⟨_, rfl, (crdI_fail hI hk0 (by have hz := Option.map_eq_none_iff.1 h; unfold crdR; simp only [k1, k2, k3, show _ = none from hz, Option.bind_some, Option.bind_none, Option.map_none])), rfl⟩) (fun q0 q1 hq => ?_)
      obtain ⟨⟨u, q4⟩, k4, hq2⟩ := Option.map_eq_some_iff.1 hq
      cases hq2
      obtain ⟨u, rfl, hu, f4⟩ := oct_some2 k4
      refine AList.c 40 rfl rfl rfl (OpJ.move rfl rfl) ?_
      refine AList.callR 41 0 (longR_ok q4) rfl rfl rfl rfl rfl rfl rfl rfl rf78 (fun h => ⟨_, rfl, (crdI_fail hI hk0 (by have hz := Option.map_eq_none_iff.1 h; unfold crdR; simp only [k1, k2, k3, k4, show _ = none from hz, Option.bind_some, Option.bind_none, Option.map_none])), rfl⟩) (fun q0 q1 hq => ?_)
      obtain ⟨⟨v, q5⟩, k5, hq2⟩ := Option.map_eq_some_iff.1 hq
      cases hq2
      obtain ⟨v, rfl, hv, f5⟩ := longP_spec k5
      have hsk := crdR_some (next := next) k1 k2 k3 k4 k5
      refine AList.c 42 rfl rfl rfl (OpJ.build rfl bd76 rfl rfl) ?_
      refine AList.c 6 rfl rfl rfl (OpJ.allocOwn rfl zr76 rfl) ?_
      refine AList.c0 rfl rfl (OpJ.store rfl rfl rfl rfl rfl ty76 rfl rfl) ?_
      refine AList.nil ?_
      refine AWp.seq ?_
      refine AWp.region ?_
      refine AList.c 43 rfl rfl rfl (OpJ.fieldAddr rfl rfl fd76_0 rfl) ?_
      refine AList.c 44 rfl rfl rfl (OpJ.load rfl rfl ty3 rfl) ?_
      refine AList.c 45 rfl rfl rfl (OpJ.add rfl rfl rfl (i64ok ?_)) ?_
      · omega
      refine AList.c 5 rfl rfl rfl (OpJ.assign rfl rfl) ?_
      refine AList.nil ?_
      refine AWp.region ?_
      refine AList.c 46 rfl rfl rfl (OpJ.move rfl rfl) ?_
      refine AList.c 47 rfl rfl rfl (OpJ.load (v := .p (.agg (Crd.mk (next + x) y z u v).cells)) rfl rfl ty76 rfl) ?_
      refine AList.c 48 rfl rfl rfl (OpJ.buildImm rfl slz23 (by decide) rfl rfl rfl) ?_
      refine AList.c 49 rfl rfl rfl (OpJ.appendAcc rfl rfl rfl slz23 sl23 rfl ?_ rfl (by decide) rfl by76 (by decide) ?_) ?_
      · rw [List.length_map, Go.AF.flat_len (c := 5) (fun _ => rfl)]; rfl
      · show (2 * (acc.length + 1) + 192) * 40 ≤ 281474976710656; omega
      refine AList.c 2 rfl rfl rfl (OpJ.assign rfl rfl) ?_
      refine AList.nil ?_
      refine AWp.region ?_
      refine AList.c 50 rfl rfl rfl (OpJ.add (m := ((acc.length + 1 : Nat) : Int)) rfl rfl rfl ((i64ok ?_).trans ?_)) ?_
      · omega
      · omega
      refine AList.c 28 rfl rfl rfl (OpJ.move rfl rfl) ?_
      refine AList.nil ?_
      refine ⟨(acc ++ [⟨next + x, y, z, u, v⟩], next + x + 1, q5), ?_, ?_, ?_⟩
      · exact ⟨by rw [List.length_append]; exact hk0, by show 0 ≤ next + x + 1; omega, by rw [List.length_append]; show next + x + 1 ≤ 268435456 * ((acc.length + 1 : Nat) : Int); omega, crdI_step hI hk0 hsk⟩
      · show m - (acc ++ [_]).length < m - acc.length
        rw [List.length_append]
        show m - (acc.length + 1) < _
        omega
      have eLn : (acc ++ [Crd.mk (next + x) y z u v]).length = acc.length + 1 := by rw [List.length_append]; rfl
      have eL : (acc ++ [Crd.mk (next + x) y z u v]).flatMap Crd.cells = acc.flatMap Crd.cells ++ (Crd.mk (next + x) y z u v).cells := by rw [List.flatMap_append]; simp
      dsimp only
      rw [eLn, eL]
      refine To.done [0, 3] rfl (by repeat (first | exact Sub.nil | refine Sub.cons rfl ?_)) ?_
      show (_ : Blk) :: [_] = _ :: [_]
      refine List.cons_eq_cons.2 ⟨rfl, ?_⟩
      show [Blk.row (renL _ (_ ++ _)) _] = [Blk.row _ _]
      rw [renL_app, renL_pure, List.map_append]
      rfl
    · skip
      have hk0 : acc.length = m := by have h := of_decide_eq_false hc1; omega
      refine AWp.to (To.accD 2 1 acc.length (xs := acc.flatMap Crd.cells) rfl rfl (fun h => by rw [List.length_eq_zero_iff.1 h]; rfl)) ?_
      refine AWp.exit ?_
      refine AWp.seq ?_
      refine AWp.region ?_
      refine AList.c 51 rfl rfl rfl (OpJ.move rfl rfl) ?_
      refine AList.callR 52 0 (octet_ok q) rfl rfl rfl rfl rfl rfl rfl rfl rf77 (fun h => ⟨_, rfl, (by have hz := Option.map_eq_none_iff.1 h; rw [crdI_end hI hk0]; unfold crdsE; simp only [show octP q = none from hz]; rfl), rfl⟩) (fun q0 q1 hq => ?_)
      obtain ⟨⟨s, q1⟩, k1, hq2⟩ := Option.map_eq_some_iff.1 hq
      cases hq2
      refine AList.nil ?_
      refine AWp.seq ?_
      refine AWp.seq ?_
      refine AWp.region ?_
      refine AList.c 53 rfl rfl rfl (OpJ.move rfl rfl) ?_
      refine AList.c 54 rfl rfl rfl (OpJ.nilCheck rfl rfl) ?_
      refine AList.c 55 rfl rfl rfl (OpJ.fieldAddr rfl rfl fd127_0 rfl) ?_
      refine AList.c 56 rfl rfl rfl (OpJ.load rfl rfl ty9 rfl) ?_
      refine AList.c 57 rfl rfl rfl (OpJ.strNe _ _ rfl rfl rfl) ?_
      refine AList.nil ?_
      refine AWp.cond _ rfl (fun hc2 => ?_) (fun hc2 => ?_)
      · skip
        have hno : ((crdsR r).map fun x => (crdsV x.1, x.2)) = none := by rw [crdI_end hI hk0, crdsE_no k1 (by simpa using hc2)]; rfl
        refine AWp.region ?_
        refine AList.callFail 58 (fail_ok) rfl rfl rfl rfl rfl rfl rfl rf68 ⟨_, rfl, hno, rfl⟩
      · skip
        have hq1 : q1 = [] := by simpa using hc2
        subst hq1
        have he := crdsE_yes (acc := acc) k1 rfl
        refine AWp.skip ?_
        refine AWp.seq ?_
        refine AWp.region ?_
        refine AList.c 59 rfl rfl rfl (OpJ.move rfl rfl) ?_
        refine AList.c 2 rfl rfl rfl (OpJ.assign rfl rfl) ?_
        refine AList.nil ?_
        refine AWp.norm [0] [(2, _)] [(rB 127 ([]))] rfl (by repeat (first | exact Sub.nil | refine Sub.cons rfl ?_)) rfl ?_
        refine AWp.ret ?_
        exact FinOP.one rfl rfl ⟨_, _, by rw [crdI_end hI hk0, he]; rfl, rfl, rfl⟩
end Go.Proofs.YtplofbjppcbchaaDoor
end

section
set_option linter.unusedVariables false
set_option maxRecDepth 100000
set_option maxHeartbeats 4000000
set_option linter.unusedSimpArgs false
namespace Go.Proofs.YtplofbjppcbchaaDoor
open Go.AF
theorem pack_ok (r : Bs) (hr : r.length ≤ 65536) : ACallsR Tryd.prog 127 (.iface 124 (.agg [.int .i64 8])) 33 [] (r) ((pckR r).map fun x => (PV.agg x.1.cells, x.2)) := by
  refine ACallsP.start (N := 56) Tryd.func33 rfl rfl (Nat.le_of_ble_eq_true rfl) ?_
  refine AWp.seq ?_
  refine AWp.region ?_
  refine AList.c 2 rfl rfl rfl (OpJ.allocOwn rfl zr36 rfl) ?_
  refine AList.nil ?_
  refine AWp.seq ?_
  refine AWp.region ?_
  refine AList.c 5 rfl rfl rfl (OpJ.move rfl rfl) ?_
  refine AList.callR 6 0 (number_ok r) rfl rfl rfl rfl rfl rfl rfl rfl rf64 (fun h => ⟨_, rfl, (by have hz := Option.map_eq_none_iff.1 h; unfold pckR; simp only [hz, Option.bind_none]; rfl), rfl⟩) (fun q0 q1 hq => ?_)
  obtain ⟨⟨bx, r1⟩, h1, hq2⟩ := Option.map_eq_some_iff.1 hq
  cases hq2
  obtain ⟨box, rfl, hbx, g1⟩ := num_spec h1
  refine AList.c 7 rfl rfl rfl (OpJ.fieldAddr rfl rfl fd36_0 rfl) ?_
  refine AList.c0 rfl rfl (OpJ.store rfl rfl rfl rfl rfl ty3 rfl rfl) ?_
  refine AList.nil ?_
  refine AWp.seq ?_
  refine AWp.region ?_
  refine AList.c 8 rfl rfl rfl (OpJ.move rfl rfl) ?_
  refine AList.callR 9 0 (want_ok [58] r1) rfl rfl rfl rfl rfl rfl rfl rfl rf65 (fun h => ⟨_, rfl, (by have hz := Option.map_eq_none_iff.1 h; unfold pckR; simp only [h1, hz, Option.bind_some, Option.bind_none]; rfl), rfl⟩) (fun q0 q1 hq => ?_)
  obtain ⟨r2, h2, hq2⟩ := Option.map_eq_some_iff.1 hq
  obtain ⟨rfl, rfl⟩ := Prod.mk.inj hq2
  have g2 := want_len h2
  refine AList.nil ?_
  refine AWp.seq ?_
  refine AWp.block ?_
  refine AWp.loopHL [0, 2, 53, 55] (fun g => []) (fun g => [(rB 127 (g.2)), .cells [.p (.int .i64 ((box : Nat) : Int)), accV 2 g.1.length] 36, accB ((g.1.flatMap intC).map .p) 3 g.1.length]) (fun g => g.1.length ≤ 48 ∧ PckI r box g.1 g.2) (fun g => g.2.length) ([], r2) ⟨Nat.zero_le _, pckI_0 h1 h2⟩ (To.pad.trans (To.sub (Sub.chk Sub.nil))) (fun g hg => ?_)
  obtain ⟨acc, q⟩ := g
  obtain ⟨hq, hI⟩ := hg
  dsimp only at hq hI ⊢
  refine AWp.seq ?_
  refine AWp.seq ?_
  refine AWp.region ?_
  refine AList.c 10 rfl rfl rfl (OpJ.move rfl rfl) ?_
  refine AList.callR 11 0 (is_ok [32] q) rfl rfl rfl rfl rfl rfl rfl rfl rf66 (fun h => by cases h) (fun q0 q1 hq => ?_)
  cases hq
  refine AList.nil ?_
  refine AWp.cond _ rfl (fun hc0 => ?_) (fun hc0 => ?_)
  · skip
    have hp : preB [32] q = true := by rw [← isP_1]; exact hc0
    have e1 : (isP [32] q).2 = q.drop 1 := by rw [isP_yes hp]; rfl
    refine AWp.skip ?_
    refine AWp.block ?_
    refine AWp.seq ?_
    refine AWp.region ?_
    refine AList.c 12 rfl rfl rfl (OpJ.build rfl bd84 rfl rfl) ?_
    refine AList.c 3 rfl rfl rfl (OpJ.allocOwn rfl zr84 rfl) ?_
    refine AList.c0 rfl rfl (OpJ.store rfl rfl rfl rfl rfl ty84 rfl rfl) ?_
    refine AList.nil ?_
    refine AWp.seq ?_
    refine AWp.region ?_
    refine AList.c 13 rfl rfl rfl (OpJ.move rfl rfl) ?_
    refine AList.callR 14 0 (number_ok (isP [32] q).2) rfl rfl rfl rfl rfl rfl rfl rfl rf64 (fun h => ⟨_, rfl, (pckI_fail hI hp (itmR_no (by have hz := Option.map_eq_none_iff.1 h; rw [e1] at hz; exact hz))), rfl⟩) (fun q0 q1 hq => ?_)
    obtain ⟨⟨f, q1⟩, k1, hq2⟩ := Option.map_eq_some_iff.1 hq
    cases hq2
    rw [e1] at k1
    obtain ⟨f, rfl, hf, f1⟩ := num_spec k1
    refine AList.c 15 rfl rfl rfl (OpJ.fieldAddr rfl rfl fd84_0 rfl) ?_
    refine AList.c0 rfl rfl (OpJ.store rfl rfl rfl rfl rfl ty3 rfl rfl) ?_
    refine AList.nil ?_
    refine AWp.seq ?_
    refine AWp.region ?_
    refine AList.c 16 rfl rfl rfl (OpJ.fieldAddr rfl rfl fd84_0 rfl) ?_
    refine AList.c 17 rfl rfl rfl (OpJ.load rfl rfl ty3 rfl) ?_
    refine AList.c 18 rfl rfl rfl (OpJ.fieldAddr rfl rfl fd84_1 rfl) ?_
    refine AList.c0 rfl rfl (OpJ.store rfl rfl rfl rfl rfl ty3 rfl rfl) ?_
    refine AList.nil ?_
    refine AWp.join (fun (g : Itm × Bs) => [(0, .ptr 0 0), (2, .ptr 1 0), (3, .ptr 3 0)]) (fun (g : Itm × Bs) => [(rB 127 (g.2)), .cells [.p (.int .i64 ((box : Nat) : Int)), accV 2 acc.length] 36, accB ((acc.flatMap intC).map .p) 3 acc.length, .cells [.p (.int .i64 g.1.fr), .p (.int .i64 g.1.to), .p (.int .i64 ((g.1.many : Nat) : Int))] 84]) (fun (g : Itm × Bs) => itmR (q.drop 1) = some g ∧ ItmR g.1) ?_ (fun ⟨x, q3⟩ ⟨hsk, hx⟩ => ?_)
    · skip
      refine AWp.seq ?_
      refine AWp.region ?_
      refine AList.c 19 rfl rfl rfl (OpJ.move rfl rfl) ?_
      refine AList.callR 20 0 (is_ok [120] q1) rfl rfl rfl rfl rfl rfl rfl rfl rf66 (fun h => by cases h) (fun q0 q1 hq => ?_)
      cases hq
      refine AList.nil ?_
      refine AWp.cond _ rfl (fun hc1 => ?_) (fun hc1 => ?_)
      · skip
        have hp2 : preB [120] q1 = true := by rw [← isP_1]; exact hc1
        refine AWp.region ?_
        refine AList.c 21 rfl rfl rfl (OpJ.move rfl rfl) ?_
        refine AList.callR 22 0 (number_ok (isP [120] q1).2) rfl rfl rfl rfl rfl rfl rfl rfl rf64 (fun h => ⟨_, rfl, (pckI_fail hI hp (itmR_nom k1 hp2 (by have hz := Option.map_eq_none_iff.1 h; rw [isP_yes hp2] at hz; exact hz))), rfl⟩) (fun q0 q1 hq => ?_)
        obtain ⟨⟨m, q2⟩, k2, hq2⟩ := Option.map_eq_some_iff.1 hq
        cases hq2
        rw [isP_yes hp2] at k2
        obtain ⟨m, rfl, hm, f2⟩ := num_spec k2
        have hsk := itmR_m k1 hp2 k2
        refine AList.c 23 rfl rfl rfl (OpJ.fieldAddr rfl rfl fd84_2 rfl) ?_
        refine AList.c0 rfl rfl (OpJ.store rfl rfl rfl rfl rfl ty3 rfl rfl) ?_
        refine AList.nil ?_
        exact ⟨(⟨f, f, m⟩, q2), ⟨hsk, by unfold ItmR; dsimp only; omega⟩, To.sub (by repeat (first | exact Sub.nil | refine Sub.cons rfl ?_))⟩
      · skip
        have hp2 : preB [120] q1 = false := by rw [← isP_1]; exact hc1
        refine AWp.seq ?_
        refine AWp.region ?_
        refine AList.c 24 rfl rfl rfl (OpJ.move rfl rfl) ?_
        refine AList.callR 25 0 (is_ok [45] (isP [120] q1).2) rfl rfl rfl rfl rfl rfl rfl rfl rf66 (fun h => by cases h) (fun q0 q1 hq => ?_)
        cases hq
        refine AList.nil ?_
        refine AWp.cond _ rfl (fun hc2 => ?_) (fun hc2 => ?_)
        · skip
          have hp3 : preB [45] q1 = true := by rw [isP_no hp2] at hc2; rw [← isP_1]; exact hc2
          refine AWp.region ?_
          refine AList.c 26 rfl rfl rfl (OpJ.move rfl rfl) ?_
          refine AList.callR 27 0 (number_ok (isP [45] (isP [120] q1).2).2) rfl rfl rfl rfl rfl rfl rfl rfl rf64 (fun h => ⟨_, rfl, (pckI_fail hI hp (itmR_not k1 hp2 hp3 (by have hz := Option.map_eq_none_iff.1 h; rw [isP_no hp2, isP_yes hp3] at hz; exact hz))), rfl⟩) (fun q0 q1 hq => ?_)
          obtain ⟨⟨t, q2⟩, k2, hq2⟩ := Option.map_eq_some_iff.1 hq
          cases hq2
          rw [isP_no hp2, isP_yes hp3] at k2
          obtain ⟨t, rfl, ht, f2⟩ := num_spec k2
          have hsk := itmR_t k1 hp2 hp3 k2
          refine AList.c 28 rfl rfl rfl (OpJ.fieldAddr rfl rfl fd84_1 rfl) ?_
          refine AList.c0 rfl rfl (OpJ.store rfl rfl rfl rfl rfl ty3 rfl rfl) ?_
          refine AList.nil ?_
          exact ⟨(⟨f, t, 1⟩, q2), ⟨hsk, by unfold ItmR; dsimp only; omega⟩, To.sub (by repeat (first | exact Sub.nil | refine Sub.cons rfl ?_))⟩
        · skip
          have hp3 : preB [45] q1 = false := by rw [isP_no hp2] at hc2; rw [← isP_1]; exact hc2
          have hsk := itmR_1 k1 hp2 hp3
          refine AWp.skip ?_
          exact ⟨(⟨f, f, 1⟩, q1), ⟨hsk, by unfold ItmR; dsimp only; omega⟩, To.eqH (To.sub (by repeat (first | exact Sub.nil | refine Sub.cons rfl ?_))) (by rw [isP_no hp2, isP_no hp3]; rfl)⟩
    · skip
      refine AWp.seq ?_
      refine AWp.seq ?_
      dsimp only at hsk hx ⊢
      have gsk := itmR_len hsk
      rw [List.length_drop] at gsk
      have hxx := hx
      unfold ItmR at hxx
      refine AWp.region ?_
      refine AList.c 29 rfl rfl rfl (OpJ.fieldAddr rfl rfl fd84_0 rfl) ?_
      refine AList.c 30 rfl rfl rfl (OpJ.load (v := .p (.int .i64 x.fr)) rfl rfl ty3 rfl) ?_
      refine AList.c 4 rfl rfl rfl (OpJ.assign rfl rfl) ?_
      refine AList.nil ?_
      refine AWp.block ?_
      refine AWp.loopHL [0, 2, 3, 10, 11, 12, 13, 14, 15, 16, 17, 18, 19, 20, 21, 22, 23, 24, 25, 26, 27, 28, 29, 30, 48, 49, 50, 51, 53, 55] (fun (k : Nat) => [(4, .p (.int .i64 (x.fr + (k : Int))))]) (fun (k : Nat) => [(rB 127 (q3)), .cells [.p (.int .i64 ((box : Nat) : Int)), accV 2 (acc ++ sprT x k).length] 36, accB (((acc ++ sprT x k).flatMap intC).map .p) 3 (acc ++ sprT x k).length, .cells [.p (.int .i64 x.fr), .p (.int .i64 x.to), .p (.int .i64 ((x.many : Nat) : Int))] 84]) (fun (k : Nat) => k ≤ sprN x) (fun (k : Nat) => sprN x - k) 0 (Nat.zero_le _) (To.eqH (To.sub (Sub.chk (Sub.cons (by show some (V.p (PV.int .i64 x.fr)) = _; rw [Int.natCast_zero, Int.add_zero]) Sub.nil))) (by rw [show sprT x 0 = [] from rfl, List.append_nil])) (fun k hg => ?_)
      refine AWp.seq ?_
      refine AWp.seq ?_
      refine AWp.region ?_
      refine AList.c 31 rfl rfl rfl (OpJ.move rfl rfl) ?_
      refine AList.c 32 rfl rfl rfl (OpJ.fieldAddr rfl rfl fd84_1 rfl) ?_
      refine AList.c 33 rfl rfl rfl (OpJ.load (v := .p (.int .i64 x.to)) rfl rfl ty3 rfl) ?_
      refine AList.c 34 rfl rfl rfl (OpJ.min2 rfl rfl rfl) ?_
      refine AList.c 35 rfl rfl rfl (OpJ.leq rfl rfl rfl) ?_
      refine AList.nil ?_
      refine AWp.cond _ rfl (fun hc3 => ?_) (fun hc3 => ?_)
      · skip
        have hk0 : k < sprN x := by have h := of_decide_eq_true hc3; unfold sprN; omega
        have hkn : k ≤ 100 := by have := sprN_le hx; omega
        refine AWp.skip ?_
        refine AWp.seq ?_
        refine AWp.block ?_
        refine AWp.regionDraw 8 mixed (by kernel_rfl) (by decide) ?_
        refine AQuiet.cons 38 rfl rfl rfl (OpJ.fieldAddr rfl rfl fd36_1 rfl) ?_
        refine AQuiet.cons 39 rfl rfl rfl (OpJ.load (v := accV 2 (acc ++ sprT x k).length) rfl rfl ty34 rfl) ?_
        refine AQuiet.cons 40 rfl rfl rfl (OpJ.move rfl rfl) ?_
        refine AQuiet.cons 41 rfl rfl rfl (OpJ.buildImm rfl slz34 (by decide) rfl rfl rfl) ?_
        refine AQuiet.cons 42 rfl rfl rfl (OpJ.fieldAddr rfl rfl fd84_2 rfl) ?_
        refine AQuiet.cons 43 rfl rfl rfl (OpJ.load (v := .p (.int .i64 ((x.many : Nat) : Int))) rfl rfl ty3 rfl) ?_
        refine AQuiet.cons 44 rfl rfl rfl (OpJ.cst (OpJ.min2 rfl rfl rfl) (show min ((x.many : Nat) : Int) 49 = ((min x.many 49 : Nat) : Int) by omega)) ?_
        refine AQuiet.cons 45 rfl rfl rfl (OpJ.callP (repeat_ok (x.fr + (k : Int)) (min x.many 49) (by omega)) rfl rfl rfl rfl rf67) ?_
        refine AQuiet.nil ?_
        refine AList.c 46 rfl rfl rfl (OpJ.appendAccN rfl rfl rfl slz34 sl34 rfl (pk_len (acc ++ sprT x k)) (pk_src _ _ _) (pk_one _) by3 (by decide) (by have := sprT_le x hkn; rw [List.length_append]; show (2 * (acc.length + (sprT x k).length + min x.many 49) + 192) * 8 ≤ 281474976710656; omega)) ?_
        refine AList.c 47 rfl rfl rfl (OpJ.fieldAddr rfl rfl fd36_1 rfl) ?_
        refine AList.c0 rfl rfl (OpJ.storeVac (H' := [(rB 127 (q3)), .cells [.p (.int .i64 ((box : Nat) : Int)), accV 4 ((acc ++ sprT x k).length + min x.many 49)] 36, .dead, .cells [.p (.int .i64 x.fr), .p (.int .i64 x.to), .p (.int .i64 ((x.many : Nat) : Int))] 84, accB (((acc ++ sprT x k).flatMap intC).map .p ++ (((List.replicate (min x.many 49) (x.fr + (k : Int))).flatMap intC).map .p)) 3 ((acc ++ sprT x k).length + min x.many 49)]) rfl rfl rfl ty34 rfl) ?_
        refine AList.nil ?_
        refine AWp.region ?_
        refine AList.c 36 rfl rfl rfl (OpJ.move rfl rfl) ?_
        refine AList.c 37 rfl rfl rfl (OpJ.add (m := (x.fr + ((k + 1 : Nat) : Int))) rfl rfl rfl ((i64ok ?_).trans ?_)) ?_
        · omega
        · omega
        refine AList.c 4 rfl rfl rfl (OpJ.assign rfl rfl) ?_
        refine AList.nil ?_
        refine ⟨k + 1, ?_, ?_, ?_⟩
        · exact hk0
        · omega
        have eL : (acc ++ sprT x (k + 1)).length = (acc ++ sprT x k).length + min x.many 49 := by rw [sprT_succ, ← List.append_assoc, List.length_append, List.length_replicate]
        have eC : (acc ++ sprT x (k + 1)).flatMap intC = (acc ++ sprT x k).flatMap intC ++ (List.replicate (min x.many 49) (x.fr + (k : Int))).flatMap intC := by rw [sprT_succ, ← List.append_assoc, List.flatMap_append]
        rw [eL, eC]
        refine To.done [0, 1, 4, 3] rfl (by repeat (first | exact Sub.nil | refine Sub.cons rfl ?_)) ?_
        show [_, Blk.cells [_, renV _ (accV 4 _)] _, renB _ (accB (_ ++ _) _ _), _] = _
        rw [accV_renI (σ := pl [0, 1, 4, 3]) (i := 4) (j := 2) rfl, ← List.map_append, accB_ren]
        rfl
      · skip
        have hk0 : k = sprN x := by have h := of_decide_eq_false hc3; unfold sprN at *; omega
        subst hk0
        refine AWp.exit ?_
        refine AWp.seq ?_
        refine AWp.region ?_
        refine AList.c 48 rfl rfl rfl (OpJ.fieldAddr rfl rfl fd36_1 rfl) ?_
        refine AList.c 49 rfl rfl rfl (OpJ.load (v := accV 2 (acc ++ sprd x).length) rfl rfl ty34 rfl) ?_
        refine AList.c 50 rfl rfl rfl (OpJ.lenSlice rfl rfl sl34 (alen_acc _ _)) ?_
        refine AList.c 51 rfl rfl rfl (OpJ.gtr rfl rfl rfl) ?_
        refine AList.nil ?_
        refine AWp.cond _ rfl (fun hc4 => ?_) (fun hc4 => ?_)
        · skip
          have hno : ((pckR r).map fun x => (PV.agg x.1.cells, x.2)) = none := pckI_many hI hp hsk (by have h : (((acc ++ sprd x).length : Nat) : Int) > 48 := of_decide_eq_true hc4; omega)
          refine AWp.region ?_
          refine AList.callFail 52 (fail_ok) rfl rfl rfl rfl rfl rfl rfl rf68 ⟨_, rfl, hno, rfl⟩
        · skip
          have hmn : (acc ++ sprd x).length ≤ 48 := by have h : ¬ (((acc ++ sprd x).length : Nat) : Int) > 48 := of_decide_eq_false hc4; omega
          refine AWp.skip ?_
          refine ⟨(acc ++ sprd x, q3), ?_, ?_, ?_⟩
          · exact ⟨by omega, pckI_step hI hp hsk (by omega)⟩
          · show q3.length < q.length
            omega
          refine To.done [0, 1, 2] rfl (by repeat (first | exact Sub.nil | refine Sub.cons rfl ?_)) ?_
          show [_, Blk.cells [_, renV _ (accV 2 _)] _, renB _ (accB _ _ _)] = _
          rw [accV_renI (σ := pl [0, 1, 2]) (i := 2) (j := 2) rfl, accB_ren]
          rfl
  · skip
    have hp : preB [32] q = false := by rw [← isP_1]; exact hc0
    refine AWp.to (To.accC 2 1 (xs := acc.flatMap intC) (n := acc.length) (a := [.int .i64 (box : Int)]) (b := []) [(0, .ptr 0 0), (2, .ptr 1 0)] (by decide) rfl rfl (fun h => by rw [List.length_eq_zero_iff.1 h]; rfl) rfl rfl (by repeat (first | exact Sub.nil | refine Sub.cons rfl ?_)) (by repeat (first | exact Sub.nil | refine Sub.cons rfl ?_))) ?_
    refine AWp.exit ?_
    refine AWp.seq ?_
    refine AWp.region ?_
    refine AList.c 53 rfl rfl rfl (OpJ.move rfl rfl) ?_
    refine AList.callR 54 0 (want_ok [10] (isP [32] q).2) rfl rfl rfl rfl rfl rfl rfl rfl rf65 (fun h => ⟨_, rfl, (by have hz := Option.map_eq_none_iff.1 h; rw [isP_no hp] at hz; rw [pckI_end hI hp, show wantP [10] q = none from hz]; rfl), rfl⟩) (fun q0 q1 hq => ?_)
    obtain ⟨q4, k4, hq2⟩ := Option.map_eq_some_iff.1 hq
    obtain ⟨rfl, rfl⟩ := Prod.mk.inj hq2
    refine AList.nil ?_
    refine AWp.seq ?_
    refine AWp.region ?_
    refine AList.c 55 rfl rfl rfl (OpJ.load (v := .p (.agg (Pck.mk (box : Int) acc).cells)) rfl rfl ty36 rfl) ?_
    refine AList.c0 rfl rfl (OpJ.store rfl rfl rfl rfl rfl ty36 rfl rfl) ?_
    refine AList.to ((To.freeze 1 rfl rfl).trans (To.done (H2 := [(rB 127 (q4))]) (S := [(2, _)]) [0] rfl (Sub.cons rfl Sub.nil) rfl)) ?_
    refine AList.nil ?_
    refine AWp.ret ?_
    rw [isP_no hp] at k4
    exact FinOP.one rfl ⟨_, _, _, rfl, ty36, rfl⟩ ⟨_, _, by rw [pckI_end hI hp, k4]; rfl, rfl, rfl⟩
end Go.Proofs.YtplofbjppcbchaaDoor
end
