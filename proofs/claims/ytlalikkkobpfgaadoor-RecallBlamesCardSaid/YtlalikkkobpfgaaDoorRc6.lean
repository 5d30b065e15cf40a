/-
  What batches have in common.
-/
import Derived.Test.YtlalikkkobpfgaaDoorRc5
set_option linter.unusedVariables false
set_option maxRecDepth 100000
set_option maxHeartbeats 4000000
set_option linter.unusedSimpArgs false
namespace Go.Proofs.YtlalikkkobpfgaaDoor
open Go.AF
theorem Common_ok (l : List Bat) (lots : Int) (hb : l.length ≤ bigN) : Pure Tryd.prog 15 [batV l, .int .i64 lots] (.tuple [.int .i64 ((cmA l lots : Nat) : Int), .int .i64 ((cmL l lots : Nat) : Int), .int .i64 (cmE l lots)]) := by
  have hb2 := hb
  unfold bigN at hb2
  refine Pure.start (N := 56) Tryd.func15 rfl rfl (Nat.le_of_ble_eq_true rfl) ?_
  refine AWp.seq ?_
  refine AWp.region ?_
  refine AList.c 2 rfl rfl rfl (OpJ.boxImm rfl rfl rfl) ?_
  refine AList.c 4 rfl rfl rfl (OpJ.assign rfl rfl) ?_
  refine AList.c 5 rfl rfl rfl (OpJ.allocOwn rfl zr3 rfl) ?_
  refine AList.c 6 rfl rfl rfl (OpJ.assign rfl rfl) ?_
  refine AList.nil ?_
  refine AWp.scope ?_
  refine AWp.seq ?_
  refine AWp.seq ?_
  refine AWp.region ?_
  refine AList.c 12 rfl rfl rfl (OpJ.load rfl rfl ty22 rfl) ?_
  refine AList.c 13 rfl rfl rfl (OpJ.move rfl rfl) ?_
  refine AList.c 14 rfl rfl rfl (OpJ.buildImm rfl slz53 (by decide) rfl rfl rfl) ?_
  refine AList.c 15 rfl rfl rfl (OpJ.callP (check_ok l [(lots : Int)] hb (by unfold bigN; show 1 ≤ _; omega)) rfl rfl rfl rfl rf33) ?_
  refine AList.c 7 rfl rfl rfl (OpJ.assign rfl rfl) ?_
  refine AList.nil ?_
  refine AWp.seq ?_
  refine AWp.region ?_
  refine AList.c 16 rfl rfl rfl (OpJ.move rfl rfl) ?_
  refine AList.c 17 rfl rfl rfl (OpJ.neq rfl rfl rfl) ?_
  refine AList.nil ?_
  refine AWp.cond _ rfl (fun hc0 => ?_) (fun hc0 => ?_)
  · skip
    have hE : chkE l [lots] ≠ 0 := by simpa using hc0
    refine AWp.seq ?_
    refine AWp.region ?_
    refine AList.c 18 rfl rfl rfl (OpJ.move rfl rfl) ?_
    refine AList.c 4 rfl rfl rfl (OpJ.assign rfl rfl) ?_
    refine AList.c0 rfl rfl (OpJ.store rfl rfl rfl rfl rfl ty3 rfl rfl) ?_
    refine AList.c 6 rfl rfl rfl (OpJ.assign rfl rfl) ?_
    refine AList.nil ?_
    refine AWp.ret ?_
    refine Fin.manyE (xs := [.int .i64 0, .int .i64 0, .int .i64 (chkE l [lots])]) rfl (⟨_, _, rfl, rfl, ⟨_, _, rfl, ⟨_, _, _, rfl, ty3, rfl⟩, ⟨_, _, rfl, rfl, rfl⟩⟩⟩) rfl ?_
    have e : cmE l lots = chkE l [lots] := by unfold cmE; rw [if_pos hE]
    unfold cmA cmL; rw [e, if_neg hE, if_neg hE]; rfl
  · skip
    have hE : chkE l [lots] = 0 := by simpa using hc0
    have hC := (chk_ok hE).1
    have hS := (chk_ok hE).2
    have h24 := crd24 hC
    have hp24 := pw24 h24
    have hS1 := hS lots (by simp)
    obtain ⟨lots, rfl⟩ : ∃ m : Nat, lots = (m : Int) := ⟨lots.toNat, by omega⟩
    have hlt : lots < 2 ^ l.length := by unfold pw at hS1; omega
    have hol := blame_lt l lots 0
    have hp24n := Nat.pow_le_pow_right (show 0 < 2 by omega) h24
    have ho32 : blameN l lots 0 < 2 ^ 32 := by omega
    refine AWp.skip ?_
    refine AWp.seq ?_
    refine AWp.region ?_
    refine AList.c 19 rfl rfl rfl (OpJ.load rfl rfl ty22 rfl) ?_
    refine AList.c 20 rfl rfl rfl (OpJ.move rfl rfl) ?_
    refine AList.c 21 rfl rfl rfl (OpJ.convInt rfl rfl (by rw [un3]; rfl) un60 (u32ok ?_)) ?_
    · unfold pw at hp24 hS1; omega
    refine AList.c 22 rfl rfl rfl (OpJ.callP (blame_ok l lots 0 hC hlt (Nat.two_pow_pos _)) rfl rfl rfl rfl rf34) ?_
    refine AList.c 8 rfl rfl rfl (OpJ.assign rfl rfl) ?_
    refine AList.nil ?_
    refine AWp.seq ?_
    refine AWp.seq ?_
    refine AWp.region ?_
    refine AList.c 23 rfl rfl rfl (OpJ.move rfl rfl) ?_
    refine AList.c 24 rfl rfl rfl (OpJ.eql rfl rfl rfl) ?_
    refine AList.c 25 rfl rfl rfl (OpJ.move rfl rfl) ?_
    refine AList.g 26 25 rfl rfl rfl rfl rfl rfl rfl [(8, _)] (fun h => And.intro (.inl rfl) (trivial)) (fun h => (OpJ.move rfl rfl)) ?_
    refine AList.g 27 25 rfl rfl rfl rfl rfl rfl rfl [(26, _)] (fun h => And.intro (.inr ⟨_, rfl, h⟩) (trivial)) (fun h => (OpJ.eql rfl rfl rfl)) ?_
    refine AList.c 28 rfl rfl rfl (OpJ.or_ rfl rfl rfl ?_) ?_
    · first | (intro h; rw [h]; rfl) | (intro h; simp_all)
    refine AList.nil ?_
    refine AWp.cond _ rfl (fun hc1 => ?_) (fun hc1 => ?_)
    · skip
      have hz : (lots : Int) = 0 ∨ blameN l lots 0 = 0 := by have h : (decide ((lots : Int) = 0) || decide (((blameN l lots 0 : Nat) : Int) = 0)) = true := hc1; simp only [Bool.or_eq_true, decide_eq_true_eq] at h; omega
      refine AWp.seq ?_
      refine AWp.region ?_
      refine AList.c 4 rfl rfl rfl (OpJ.assign rfl rfl) ?_
      refine AList.c0 rfl rfl (OpJ.store rfl rfl rfl rfl rfl ty3 rfl rfl) ?_
      refine AList.c 6 rfl rfl rfl (OpJ.assign rfl rfl) ?_
      refine AList.nil ?_
      refine AWp.ret ?_
      refine Fin.manyE (xs := [.int .i64 0, .int .i64 0, .int .i64 4]) rfl (⟨_, _, rfl, rfl, ⟨_, _, rfl, ⟨_, _, _, rfl, ty3, rfl⟩, ⟨_, _, rfl, rfl, rfl⟩⟩⟩) rfl ?_
      have e : cmE l (lots : Int) = 4 := by unfold cmE; rw [if_neg (not_not_intro hE), if_pos (show ((lots : Int) = 0 ∨ blameN l (lots : Int).toNat 0 = 0) from hz)]
      unfold cmA cmL; rw [e, if_neg (by decide), if_neg (by decide)]; rfl
    · skip
      have hz : ¬ ((lots : Int) = 0 ∨ blameN l lots 0 = 0) := by obtain ⟨h1, h2⟩ := Bool.or_eq_false_iff.1 hc1; have h3 := of_decide_eq_false h1; have h4 := of_decide_eq_false h2; omega
      have hcm : cmE l (lots : Int) = 0 := by unfold cmE; rw [if_neg (not_not_intro hE), if_neg (show ¬ ((lots : Int) = 0 ∨ blameN l (lots : Int).toNat 0 = 0) from hz)]
      refine AWp.skip ?_
      refine AWp.seq ?_
      refine AWp.region ?_
      refine AList.c 29 rfl rfl rfl (OpJ.move rfl rfl) ?_
      refine AList.c 30 rfl rfl rfl (OpJ.makeFunc rfl rfl rfl) ?_
      refine AList.c 9 rfl rfl rfl (OpJ.allocOwn rfl zr62 rfl) ?_
      refine AList.c0 rfl rfl (OpJ.store rfl rfl rfl rfl rfl ty62 rfl rfl) ?_
      refine AList.nil ?_
      refine AWp.seq ?_
      refine AWp.label ?_
      refine AWp.seq ?_
      refine AWp.seq ?_
      refine AWp.region ?_
      refine AList.c 31 rfl rfl rfl (OpJ.move rfl rfl) ?_
      refine AList.c 32 rfl rfl rfl (OpJ.callP (all_ok (blameN l lots 0)) rfl rfl rfl rfl rf36) ?_
      refine AList.nil ?_
      refine AWp.block ?_
      refine AWp.rangeFunc 0 rfl (fun _ => rfl) rf46 (all_seq (blameN l lots 0) ho32) (Nat.le_refl _) (Nat.zero_le _) (fun _ h => by cases h) (fun x hx => by unfold bitsX at hx; simp at hx; obtain ⟨j, _, rfl⟩ := hx; rfl) rfl (fun k h => h = [.cells [.p (.int .i64 ((lastF l (blameN l lots 0) ((bitsN (blameN l lots 0) 32).take k) : Nat) : Int))] 3, .cells [.p (.func (.func 35) [.int .u32 (((blameN l lots 0) : Nat) : Int)] [])] 62]) (fun c h => False) (fun _ _ h => by rw [h]; rfl) (fun _ _ h => h.elim) rfl ?_ ?_ ?_
      · skip
        intro lx tmps k h x hJ hx
        subst hJ
        obtain ⟨q, hq, rfl⟩ := bitsX_get hx
        have hqm := bits_mem.1 (List.mem_of_getElem? hq)
        have hql : q < l.length := bit_of_lt hol hqm.2
        have hal := (way_ahead hC).rlt q hql
        have ha32 : aheadN l q < 2 ^ 32 := by omega
        have hqp := Nat.pow_le_pow_right (show 0 < 2 by omega) (show q ≤ 24 by omega)
        have hlf : lastF l (blameN l lots 0) ((bitsN (blameN l lots 0) 32).take k) < 2 ^ l.length := lastF_lt l fun i hi => bit_of_lt hol (bits_mem.1 (List.mem_of_mem_take hi)).2
        have hor : (lastF l (blameN l lots 0) ((bitsN (blameN l lots 0) 32).take k)) ||| 1 * 2 ^ q < 2 ^ 24 := Nat.or_lt_two_pow (by omega) (by rw [Nat.one_mul]; exact Nat.pow_lt_pow_right (by omega) (by omega))
        refine AWp.region ?_
        refine AList.c 10 rfl rfl rfl (OpJ.allocOwn rfl zr3 rfl) ?_
        refine AList.c0 rfl rfl (OpJ.store rfl rfl rfl rfl rfl ty3 rfl rfl) ?_
        refine AList.nil ?_
        refine ⟨rfl, rfl, ?_⟩
        refine AWp.block ?_
        refine AWp.seq ?_
        refine AWp.seq ?_
        refine AWp.regionDraw 6 mixed (by kernel_rfl) (by decide) ?_
        refine AQuiet.cons 34 rfl rfl rfl (OpJ.load rfl rfl ty22 rfl) ?_
        refine AQuiet.cons 35 rfl rfl rfl (OpJ.callP (newAhead_ok l hC) rfl rfl rfl rfl rf31) ?_
        refine AQuiet.cons 36 rfl rfl rfl (OpJ.makeIface rfl rfl con56) ?_
        refine AQuiet.cons 37 rfl rfl rfl (OpJ.load (v := .p (.int .i64 ((q : Nat) : Int))) rfl rfl ty3 rfl) ?_
        refine AQuiet.cons 38 rfl rfl rfl (OpJ.callP (reach_ok (way_ahead hC) h24 _ _ (nx_ahead l hC) q hql) rfl rfl rfl rfl rf37) ?_
        refine AQuiet.cons 39 rfl rfl rfl (OpJ.callP (all_ok (aheadN l q)) rfl rfl rfl rfl rf36) ?_
        refine AQuiet.nil ?_
        refine AList.nil ?_
        refine AWp.block ?_
        refine AWp.rangeFuncH 0 rfl (fun _ => rfl) rf46 (all_seq (aheadN l q) ha32) (Nat.le_refl _) (Nat.zero_le _) (fun l0 h => ⟨2, _, _, _, Option.some.inj h, rfl⟩) (fun x hx => by unfold bitsX at hx; simp at hx; obtain ⟨j, _, rfl⟩ := hx; rfl) rfl (fun H k2 h => h = H ∧ ∀ p ∈ (bitsN (aheadN l q) 32).take k2, hitB l (blameN l lots 0) q p = false) (fun H c h => c = .exit 1 ∧ h = H ∧ (bitsN (aheadN l q) 32).any (hitB l (blameN l lots 0) q) = true) (fun _ _ h => by rw [h.1]) (fun _ _ h => by rw [h.2.1]) ⟨rfl, fun p hp => by simp at hp⟩ ?_ ?_ ?_
        · skip
          intro lx2 tmps2 k2 h x hJ hx
          obtain ⟨rfl, hno⟩ := hJ
          obtain ⟨q2, hq2, rfl⟩ := bitsX_get hx
          have hq2m := bits_mem.1 (List.mem_of_getElem? hq2)
          have hq32 := hq2m.1
          have hne : decide (q2 ≠ q) = !decide ((q2 : Int) = (q : Int)) := by by_cases h : q2 = q <;> simp [h] <;> omega
          refine AWp.region ?_
          refine AList.c 11 rfl rfl rfl (OpJ.assign rfl rfl) ?_
          refine AList.nil ?_
          refine ⟨rfl, rfl, ?_⟩
          refine AWp.block ?_
          refine AWp.seq ?_
          refine AWp.region ?_
          refine AList.c 41 rfl rfl rfl (OpJ.move rfl rfl) ?_
          refine AList.c 42 rfl rfl rfl (OpJ.load (v := .p (.int .i64 ((q : Nat) : Int))) rfl rfl ty3 rfl) ?_
          refine AList.c 43 rfl rfl rfl (OpJ.neq rfl rfl rfl) ?_
          refine AList.c 44 rfl rfl rfl (OpJ.move rfl rfl) ?_
          refine AList.g 45 44 rfl rfl rfl rfl rfl rfl rfl [(9, _)] (fun h => And.intro (.inl rfl) (trivial)) (fun h => (OpJ.load (v := .p (.func (.func 35) [.int .u32 (((blameN l lots 0) : Nat) : Int)] [])) rfl rfl ty62 rfl)) ?_
          refine AList.g 46 44 rfl rfl rfl rfl rfl rfl rfl [(11, _)] (fun h => And.intro (.inl rfl) (trivial)) (fun h => (OpJ.move rfl rfl)) ?_
          refine AList.g 47 44 rfl rfl rfl rfl rfl rfl rfl [(45, _), (46, _)] (fun h => And.intro (.inr ⟨_, rfl, h⟩) (And.intro (.inr ⟨_, rfl, h⟩) (trivial))) (fun h => (OpJ.callF (args := [.int .i64 ((q2 : Nat) : Int)]) (r := .bool ((blameN l lots 0).testBit q2)) (⟨35, [.int .u32 (((blameN l lots 0) : Nat) : Int), .int .i64 ((q2 : Nat) : Int)], rfl, rf35, has_ok (blameN l lots 0) q2 ho32 hq32⟩) rfl rfl rfl)) ?_
          refine AList.c 48 rfl rfl rfl (OpJ.and_ rfl rfl rfl ?_) ?_
          · first | (intro h; rw [h]; rfl) | (intro h; simp_all)
          refine AList.nil ?_
          refine AWp.cond _ rfl (fun hc2 => ?_) (fun hc2 => ?_)
          · skip
            have hh : hitB l (blameN l lots 0) q q2 = true := by unfold hitB; rw [← hc2, ← hne]
            refine AWp.exit ?_
            exact ⟨_, ⟨rfl, rfl, List.any_eq_true.2 ⟨q2, List.mem_of_getElem? hq2, hh⟩⟩, To.sub Sub.nil⟩
          · skip
            have hh : hitB l (blameN l lots 0) q q2 = false := by unfold hitB; rw [← hc2, ← hne]
            refine AWp.skip ?_
            exact ⟨_, ⟨rfl, fun p hp => by rw [take_snoc hq2] at hp; rcases List.mem_append.1 hp with h | h; { exact hno p h }; { rw [List.mem_singleton.1 h]; exact hh }⟩, To.sub Sub.nil⟩
        · skip
          intro h hJ
          obtain ⟨rfl, hno⟩ := hJ
          rw [bitsX_len, List.take_length] at hno
          have hlb : lastB l (blameN l lots 0) q = true := by unfold lastB; rw [List.any_eq_false.2 fun p hp => by rw [hno p hp]; decide]; rfl
          refine AWp.regionDraw 4 mixed (by kernel_rfl) (by decide) ?_
          refine AQuiet.cons 49 rfl rfl rfl (OpJ.load (v := .p (.int .i64 ((lastF l (blameN l lots 0) ((bitsN (blameN l lots 0) 32).take k) : Nat) : Int))) rfl rfl ty3 rfl) ?_
          refine AQuiet.cons 50 rfl rfl rfl (OpJ.load (v := .p (.int .i64 ((q : Nat) : Int))) rfl rfl ty3 rfl) ?_
          refine AQuiet.cons 51 rfl rfl rfl (OpJ.shlN 1 q rfl rfl rfl (by show _ ≤ (64 : Nat); omega) (by show _ ≤ (9223372036854775807 : Int); rw [Nat.one_mul]; omega)) ?_
          refine AQuiet.cons 52 rfl rfl rfl (OpJ.orN (lastF l (blameN l lots 0) ((bitsN (blameN l lots 0) 32).take k)) (1 * 2 ^ q) rfl rfl rfl (by show _ ≤ (9223372036854775807 : Int); omega) (by show _ ≤ (9223372036854775807 : Int); rw [Nat.one_mul]; omega) (by show _ ≤ (9223372036854775807 : Int); omega)) ?_
          rw [Nat.one_mul]
          refine AQuiet.nil ?_
          refine AList.c0 rfl rfl (OpJ.store rfl rfl rfl rfl rfl ty3 rfl rfl) ?_
          refine AList.nil ?_
          refine ⟨_, rfl, To.done [0, 1, 2] rfl Sub.nil ?_⟩
          rw [take_snoc hq, lastF_snoc, hlb]
          rfl
        · skip
          intro c h hx
          obtain ⟨rfl, rfl, hhit⟩ := hx
          have hlb : lastB l (blameN l lots 0) q = false := by unfold lastB; rw [hhit]; rfl
          refine AWp.exit ?_
          refine ⟨_, rfl, To.done [0, 1, 2] rfl Sub.nil ?_⟩
          rw [take_snoc hq, lastF_snoc, hlb]
          rfl
      · skip
        intro h hJ
        subst hJ
        rw [bitsX_len, List.take_length]
        refine AWp.seq ?_
        refine AWp.regionDraw 4 mixed (by kernel_rfl) (by decide) ?_
        refine AQuiet.cons 53 rfl rfl rfl (OpJ.move rfl rfl) ?_
        refine AQuiet.cons 54 rfl rfl rfl (OpJ.convInt rfl rfl (by rw [un60]; rfl) un3 (i64ok ?_)) ?_
        · omega
        refine AQuiet.cons 55 rfl rfl rfl (OpJ.load (v := .p (.int .i64 ((lastN l (blameN l lots 0) : Nat) : Int))) rfl rfl ty3 rfl) ?_
        refine AQuiet.cons 4 rfl rfl rfl (OpJ.assign rfl rfl) ?_
        refine AQuiet.nil ?_
        refine AList.c0 rfl rfl (OpJ.store rfl rfl rfl rfl rfl ty3 rfl rfl) ?_
        refine AList.c 6 rfl rfl rfl (OpJ.assign rfl rfl) ?_
        refine AList.nil ?_
        refine AWp.ret ?_
        refine Fin.manyE (xs := [.int .i64 (((blameN l lots 0) : Nat) : Int), .int .i64 ((lastN l (blameN l lots 0) : Nat) : Int), .int .i64 0]) rfl (⟨_, _, rfl, rfl, ⟨_, _, rfl, ⟨_, _, _, rfl, ty3, rfl⟩, ⟨_, _, rfl, rfl, rfl⟩⟩⟩) rfl ?_
        unfold cmA cmL; rw [hcm, if_pos rfl, if_pos rfl]; rfl
      · skip
        intro c h hx
        exact hx.elim
end Go.Proofs.YtlalikkkobpfgaaDoor
