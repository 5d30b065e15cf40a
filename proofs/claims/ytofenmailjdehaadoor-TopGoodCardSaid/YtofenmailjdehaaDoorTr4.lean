/-
  Ways from a batch; which batches can be to blame.
-/
import Derived.Test.YtofenmailjdehaaDoorTr3
import Derived.Test.YtofenmailjdehaaDoorRcS
set_option linter.unusedVariables false
set_option maxRecDepth 100000
set_option maxHeartbeats 4000000
set_option linter.unusedSimpArgs false
namespace Go.Proofs.YtofenmailjdehaaDoor
open Go.AF
theorem Pure.nil2 {P : Program} {f : FuncId} {x r : PV} (h : Pure P f [x, .is [] 0] r) : Pure P f [x, .nilSlice] r := by
  intro w I ρ us hi hus
  refine h w I ρ us hi ?_
  obtain ⟨u, us', rfl, h1, u2, us2, rfl, h2, h3⟩ := hus
  exact ⟨u, _, rfl, h1, u2, us2, rfl, RelV.wk (.p .nilSlice) u2 h2, h3⟩
theorem check_nil (l : List Bat) (hb : l.length ≤ bigN) : Pure Tryd.prog 21 [batV l, .nilSlice] (.int .i64 (chkE l [])) := Pure.nil2 (check_ok l [] hb (Nat.zero_le _))
theorem from_ok (l : List Bat) (b : Int) (hb : l.length ≤ bigN) (f : PV) (t : Nat) (y : PV) (nx R rk : Nat → Nat) (hw : crdOk l → Way l.length nx R rk) (hnx : crdOk l → NxOk l.length nx (.iface t y)) (hf : crdOk l → FPure Tryd.prog f [] (.iface t y)) : Pure Tryd.prog 51 [batV l, f, .int .i64 b] (.tuple [.int .i64 ((fromN l R b : Nat) : Int), .int .i64 (fromE l b)]) := by
  have hb2 := hb
  unfold bigN at hb2
  refine Pure.start (N := 25) Tryd.func51 rfl rfl (Nat.le_of_ble_eq_true rfl) ?_
  refine AWp.seq ?_
  refine AWp.region ?_
  refine AList.c 6 rfl rfl rfl (OpJ.assign rfl rfl) ?_
  refine AList.c 7 rfl rfl rfl (OpJ.assign rfl rfl) ?_
  refine AList.nil ?_
  refine AWp.seq ?_
  refine AWp.seq ?_
  refine AWp.region ?_
  refine AList.c 9 rfl rfl rfl (OpJ.move rfl rfl) ?_
  refine AList.c 10 rfl rfl rfl (OpJ.callP (check_nil l hb) rfl rfl rfl rfl rf21) ?_
  refine AList.c 8 rfl rfl rfl (OpJ.assign rfl rfl) ?_
  refine AList.nil ?_
  refine AWp.seq ?_
  refine AWp.region ?_
  refine AList.c 11 rfl rfl rfl (OpJ.move rfl rfl) ?_
  refine AList.c 12 rfl rfl rfl (OpJ.neq rfl rfl rfl) ?_
  refine AList.nil ?_
  refine AWp.cond _ rfl (fun hc0 => ?_) (fun hc0 => ?_)
  · skip
    have hE : chkE l [] ≠ 0 := by simpa using hc0
    refine AWp.seq ?_
    refine AWp.region ?_
    refine AList.c 13 rfl rfl rfl (OpJ.move rfl rfl) ?_
    refine AList.c 6 rfl rfl rfl (OpJ.assign rfl rfl) ?_
    refine AList.c 7 rfl rfl rfl (OpJ.assign rfl rfl) ?_
    refine AList.nil ?_
    refine AWp.ret ?_
    refine Fin.manyE (xs := [.int .i64 0, .int .i64 (chkE l [])]) rfl (⟨_, _, rfl, rfl, ⟨_, _, rfl, rfl, rfl⟩⟩) rfl ?_
    have e : fromE l b = chkE l [] := by rw [chk_nil] at hE ⊢; unfold fromE; split <;> simp_all
    unfold fromN; rw [e, if_neg hE]; rfl
  · skip
    have hE : chkE l [] = 0 := by simpa using hc0
    have hC := (chk_ok hE).1
    have hS := (chk_ok hE).2
    have h24 := crd24 hC
    have hp24 := pw24 h24
    refine AWp.skip ?_
    refine AWp.seq ?_
    refine AWp.seq ?_
    refine AWp.region ?_
    refine AList.c 14 rfl rfl rfl (OpJ.move rfl rfl) ?_
    refine AList.c 15 rfl rfl rfl (OpJ.move rfl rfl) ?_
    refine AList.c 16 rfl rfl rfl (OpJ.lenSlice rfl rfl sl29 rfl) ?_
    refine AList.c 17 rfl rfl rfl (OpJ.sub_ rfl rfl rfl (i64ok ?_)) ?_
    · omega
    refine AList.c 18 rfl rfl rfl (OpJ.callP (within_ok _ _ _) rfl rfl rfl rfl rf45) ?_
    refine AList.c 19 rfl rfl rfl (OpJ.not_ rfl rfl) ?_
    refine AList.nil ?_
    refine AWp.cond _ rfl (fun hc1 => ?_) (fun hc1 => ?_)
    · skip
      have hI : ¬ inB b 0 ((l.length : Int) - 1) = true := by intro h; rw [h] at hc1; cases hc1
      refine AWp.seq ?_
      refine AWp.region ?_
      refine AList.c 6 rfl rfl rfl (OpJ.assign rfl rfl) ?_
      refine AList.c 7 rfl rfl rfl (OpJ.assign rfl rfl) ?_
      refine AList.nil ?_
      refine AWp.ret ?_
      refine Fin.manyE (xs := [.int .i64 0, .int .i64 2]) rfl (⟨_, _, rfl, rfl, ⟨_, _, rfl, rfl, rfl⟩⟩) rfl ?_
      have e : fromE l b = 2 := by unfold fromE; rw [if_pos hC, if_neg hI]
      unfold fromN; rw [e, if_neg (by decide)]; rfl
    · skip
      have hI : inB b 0 ((l.length : Int) - 1) = true := by simpa using hc1
      have hI2 := hI
      simp [inB] at hI2
      obtain ⟨b, rfl⟩ : ∃ m : Nat, b = (m : Int) := ⟨b.toNat, by omega⟩
      have hbl : b < l.length := by omega
      refine AWp.skip ?_
      refine AWp.seq ?_
      refine AWp.region ?_
      refine AList.c 20 rfl rfl rfl (OpJ.move rfl rfl) ?_
      refine AList.c 21 rfl rfl rfl (OpJ.callF (hf hC) rfl rfl rfl) ?_
      refine AList.c 22 rfl rfl rfl (OpJ.move rfl rfl) ?_
      refine AList.c 23 rfl rfl rfl (OpJ.callP (reach_ok (hw hC) h24 t y (hnx hC) b hbl) rfl rfl rfl rfl rf26) ?_
      refine AList.c 24 rfl rfl rfl (OpJ.convInt rfl rfl (by rw [un78]; rfl) un3 (i64ok ?_)) ?_
      · have h2 := (hw hC).rlt b hbl; have h3 := Nat.pow_le_pow_right (show 0 < 2 by omega) h24; omega
      refine AList.c 6 rfl rfl rfl (OpJ.assign rfl rfl) ?_
      refine AList.c 7 rfl rfl rfl (OpJ.assign rfl rfl) ?_
      refine AList.nil ?_
      refine AWp.ret ?_
      refine Fin.manyE (xs := [.int .i64 ((R b : Nat) : Int), .int .i64 0]) rfl (⟨_, _, rfl, rfl, ⟨_, _, rfl, rfl, rfl⟩⟩) rfl ?_
      have e : fromE l (b : Int) = 0 := by unfold fromE; rw [if_pos hC, if_pos hI]
      unfold fromN; rw [e, if_pos rfl]; rfl
theorem back1_ok (l : List Bat) : Pure Tryd.prog 52 [.ip [batV l] 0] (.iface 125 (batV l)) := by
  refine Pure.start (N := 4) Tryd.func52 rfl rfl (Nat.le_of_ble_eq_true rfl) ?_
  refine AWp.seq ?_
  refine AWp.region ?_
  refine AList.c 1 rfl rfl rfl (OpJ.assign rfl rfl) ?_
  refine AList.nil ?_
  refine AWp.seq ?_
  refine AWp.region ?_
  refine AList.c 2 rfl rfl rfl (OpJ.load rfl rfl ty29 rfl) ?_
  refine AList.c 3 rfl rfl rfl (OpJ.makeIface rfl rfl con125) ?_
  refine AList.c 1 rfl rfl rfl (OpJ.assign rfl rfl) ?_
  refine AList.nil ?_
  refine AWp.ret ?_
  exact Fin.one rfl (rfl)
theorem Back_ok (l : List Bat) (b : Int) (hb : l.length ≤ bigN) : Pure Tryd.prog 27 [batV l, .int .i64 b] (.tuple [.int .i64 ((fromN l (backN l) b : Nat) : Int), .int .i64 (fromE l b)]) := by
  refine Pure.start (N := 12) Tryd.func27 rfl rfl (Nat.le_of_ble_eq_true rfl) ?_
  refine AWp.seq ?_
  refine AWp.region ?_
  refine AList.c 2 rfl rfl rfl (OpJ.boxImm rfl rfl rfl) ?_
  refine AList.c 4 rfl rfl rfl (OpJ.assign rfl rfl) ?_
  refine AList.c 5 rfl rfl rfl (OpJ.assign rfl rfl) ?_
  refine AList.nil ?_
  refine AWp.seq ?_
  refine AWp.region ?_
  refine AList.c 6 rfl rfl rfl (OpJ.load rfl rfl ty29 rfl) ?_
  refine AList.c 7 rfl rfl rfl (OpJ.makeFunc rfl rfl rfl) ?_
  refine AList.c 8 rfl rfl rfl (OpJ.move rfl rfl) ?_
  refine AList.c 9 rfl rfl rfl (OpJ.callP (from_ok l b hb _ _ _ (frN l) (backN l) (fun b => b) way_back (fun h => nx_back l h) (fun _ => ⟨52, [.ip [batV l] 0], rfl, rf52, back1_ok l⟩)) rfl rfl rfl rfl rf51) ?_
  refine AList.c 10 rfl rfl rfl (OpJ.extract rfl rfl rfl) ?_
  refine AList.c 11 rfl rfl rfl (OpJ.extract rfl rfl rfl) ?_
  refine AList.c 4 rfl rfl rfl (OpJ.assign rfl rfl) ?_
  refine AList.c 5 rfl rfl rfl (OpJ.assign rfl rfl) ?_
  refine AList.nil ?_
  refine AWp.ret ?_
  exact Fin.many (xs := [.int .i64 ((fromN l (backN l) b : Nat) : Int), .int .i64 (fromE l b)]) rfl (⟨_, _, rfl, rfl, ⟨_, _, rfl, rfl, rfl⟩⟩) rfl
theorem blame_ok (l : List Bat) (bad good : Nat) (hC : crdOk l) (hbd : bad < 2 ^ l.length) (hgd : good < 2 ^ l.length) : Pure Tryd.prog 22 [batV l, .int .u32 (bad : Int), .int .u32 (good : Int)] (.int .u32 ((blameN l bad good : Nat) : Int)) := by
  have h24 := crd24 hC
  have hp24 := Nat.pow_le_pow_right (show 0 < 2 by omega) h24
  have hp1 := Nat.two_pow_pos l.length
  have hfull : 2 ^ l.length - 1 < 2 ^ l.length := by omega
  have hb32 : bad < 2 ^ 32 := by omega
  have hg32 : good < 2 ^ 32 := by omega
  refine Pure.start (N := 33) Tryd.func22 rfl rfl (Nat.le_of_ble_eq_true rfl) ?_
  refine AWp.seq ?_
  refine AWp.region ?_
  refine AList.c 3 rfl rfl rfl (OpJ.boxImm rfl rfl rfl) ?_
  refine AList.c 6 rfl rfl rfl (OpJ.assign rfl rfl) ?_
  refine AList.nil ?_
  refine AWp.seq ?_
  refine AWp.region ?_
  refine AList.c 10 rfl rfl rfl (OpJ.load rfl rfl ty29 rfl) ?_
  refine AList.c 11 rfl rfl rfl (OpJ.lenSlice rfl rfl sl29 rfl) ?_
  refine AList.c 12 rfl rfl rfl (OpJ.shlN 1 l.length rfl rfl rfl (by show _ ≤ (32 : Nat); omega) (by show _ ≤ (4294967295 : Int); rw [Nat.one_mul]; omega)) ?_
  rw [Nat.one_mul]
  refine AList.c 13 rfl rfl rfl (OpJ.sub_ (m := ((2 ^ l.length - 1 : Nat) : Int)) rfl rfl rfl ((u32ok ?_).trans ?_)) ?_
  · omega
  · omega
  refine AList.c 7 rfl rfl rfl (OpJ.allocOwn rfl zr78 rfl) ?_
  refine AList.c0 rfl rfl (OpJ.store rfl rfl rfl rfl rfl ty78 rfl rfl) ?_
  refine AList.nil ?_
  refine AWp.seq ?_
  refine AWp.seq ?_
  refine AWp.region ?_
  refine AList.c 14 rfl rfl rfl (OpJ.move rfl rfl) ?_
  refine AList.c 15 rfl rfl rfl (OpJ.callP (all_ok bad) rfl rfl rfl rfl rf25) ?_
  refine AList.nil ?_
  refine AWp.block ?_
  refine AWp.rangeFunc 0 rfl (fun _ => rfl) rf48 (all_seq bad hb32) (Nat.le_refl _) (Nat.zero_le _) (fun _ h => by cases h) (fun x hx => by unfold bitsX at hx; simp at hx; obtain ⟨j, _, rfl⟩ := hx; rfl) rfl (fun k h => h = [.cells [.p (.int .u32 (((blA l (2 ^ l.length - 1) ((bitsN bad 32).take k)) : Nat) : Int))] 78]) (fun c h => False) (fun _ _ h => by rw [h]; rfl) (fun _ _ h => h.elim) rfl ?_ ?_ ?_
  · skip
    intro lx tmps k h x hJ hx
    subst hJ
    obtain ⟨q, hq, rfl⟩ := bitsX_get hx
    have hqm := bits_mem.1 (List.mem_of_getElem? hq)
    have hql : q < l.length := bit_of_lt hbd hqm.2
    have hr := (way_back hC).rlt q hql
    have ha := blA_lt l hfull ((bitsN bad 32).take k)
    refine AWp.region ?_
    refine AList.c 8 rfl rfl rfl (OpJ.assign rfl rfl) ?_
    refine AList.nil ?_
    refine ⟨rfl, rfl, ?_⟩
    refine AWp.block ?_
    refine AWp.regionDraw 6 mixed (by kernel_rfl) (by decide) ?_
    refine AQuiet.cons 17 rfl rfl rfl (OpJ.load (v := .p (.int .u32 (((blA l (2 ^ l.length - 1) ((bitsN bad 32).take k)) : Nat) : Int))) rfl rfl ty78 rfl) ?_
    refine AQuiet.cons 18 rfl rfl rfl (OpJ.load rfl rfl ty29 rfl) ?_
    refine AQuiet.cons 19 rfl rfl rfl (OpJ.makeIface rfl rfl con125) ?_
    refine AQuiet.cons 20 rfl rfl rfl (OpJ.move rfl rfl) ?_
    refine AQuiet.cons 21 rfl rfl rfl (OpJ.callP (reach_ok (way_back hC) h24 _ _ (nx_back l hC) q hql) rfl rfl rfl rfl rf26) ?_
    refine AQuiet.cons 22 rfl rfl rfl (OpJ.andN (blA l (2 ^ l.length - 1) ((bitsN bad 32).take k)) (backN l q) rfl rfl rfl (by first | (show _ ≤ (9223372036854775807 : Int); omega) | (show _ ≤ (4294967295 : Int); omega)) (by first | decide | (show _ ≤ (9223372036854775807 : Int); omega) | (show _ ≤ (4294967295 : Int); omega))) ?_
    refine AQuiet.nil ?_
    refine AList.c0 rfl rfl (OpJ.store rfl rfl rfl rfl rfl ty78 rfl rfl) ?_
    refine AList.nil ?_
    exact ⟨_, rfl, by rw [take_snoc hq, blA_snoc]; exact To.sub Sub.nil⟩
  · skip
    intro h hJ
    subst hJ
    rw [bitsX_len, List.take_length]
    refine AWp.seq ?_
    refine AWp.seq ?_
    refine AWp.region ?_
    refine AList.c 23 rfl rfl rfl (OpJ.move rfl rfl) ?_
    refine AList.c 24 rfl rfl rfl (OpJ.callP (all_ok good) rfl rfl rfl rfl rf25) ?_
    refine AList.nil ?_
    refine AWp.block ?_
    refine AWp.rangeFunc 0 rfl (fun _ => rfl) rf48 (all_seq good hg32) (Nat.le_refl _) (Nat.zero_le _) (fun _ h => by cases h) (fun x hx => by unfold bitsX at hx; simp at hx; obtain ⟨j, _, rfl⟩ := hx; rfl) rfl (fun k h => h = [.cells [.p (.int .u32 (((blG l (blA l (2 ^ l.length - 1) (bitsN bad 32)) ((bitsN good 32).take k)) : Nat) : Int))] 78, .dead]) (fun c h => False) (fun _ _ h => by rw [h]; rfl) (fun _ _ h => h.elim) rfl ?_ ?_ ?_
    · skip
      intro lx tmps k h x hJ hx
      subst hJ
      obtain ⟨q, hq, rfl⟩ := bitsX_get hx
      have hqm := bits_mem.1 (List.mem_of_getElem? hq)
      have hql : q < l.length := bit_of_lt hgd hqm.2
      have hr := (way_back hC).rlt q hql
      have ha := blG_lt l (blA_lt l hfull (bitsN bad 32)) ((bitsN good 32).take k)
      refine AWp.region ?_
      refine AList.c 9 rfl rfl rfl (OpJ.assign rfl rfl) ?_
      refine AList.nil ?_
      refine ⟨rfl, rfl, ?_⟩
      refine AWp.block ?_
      refine AWp.regionDraw 6 mixed (by kernel_rfl) (by decide) ?_
      refine AQuiet.cons 26 rfl rfl rfl (OpJ.load (v := .p (.int .u32 (((blG l (blA l (2 ^ l.length - 1) (bitsN bad 32)) ((bitsN good 32).take k)) : Nat) : Int))) rfl rfl ty78 rfl) ?_
      refine AQuiet.cons 27 rfl rfl rfl (OpJ.load rfl rfl ty29 rfl) ?_
      refine AQuiet.cons 28 rfl rfl rfl (OpJ.makeIface rfl rfl con125) ?_
      refine AQuiet.cons 29 rfl rfl rfl (OpJ.move rfl rfl) ?_
      refine AQuiet.cons 30 rfl rfl rfl (OpJ.callP (reach_ok (way_back hC) h24 _ _ (nx_back l hC) q hql) rfl rfl rfl rfl rf26) ?_
      refine AQuiet.cons 31 rfl rfl rfl (OpJ.andNotN (blG l (blA l (2 ^ l.length - 1) (bitsN bad 32)) ((bitsN good 32).take k)) (backN l q) rfl rfl rfl (by first | (show _ ≤ (9223372036854775807 : Int); omega) | (show _ ≤ (4294967295 : Int); omega))) ?_
      refine AQuiet.nil ?_
      refine AList.c0 rfl rfl (OpJ.store rfl rfl rfl rfl rfl ty78 rfl rfl) ?_
      refine AList.nil ?_
      exact ⟨_, rfl, by rw [take_snoc hq, blG_snoc]; exact To.sub Sub.nil⟩
    · skip
      intro h hJ
      subst hJ
      rw [bitsX_len, List.take_length, blame_of h24 hbd hgd]
      refine AWp.seq ?_
      refine AWp.region ?_
      refine AList.c 32 rfl rfl rfl (OpJ.load (v := .p (.int .u32 ((blameN l bad good : Nat) : Int))) rfl rfl ty78 rfl) ?_
      refine AList.c 6 rfl rfl rfl (OpJ.assign rfl rfl) ?_
      refine AList.nil ?_
      refine AWp.ret ?_
      exact Fin.one rfl (rfl)
    · skip
      intro c h hx
      exact hx.elim
  · skip
    intro c h hx
    exact hx.elim
theorem Blame_ok (l : List Bat) (bad good : Int) (hb : l.length ≤ bigN) : Pure Tryd.prog 10 [batV l, .int .i64 bad, .int .i64 good] (.tuple [.int .i64 ((blR l bad good : Nat) : Int), .int .i64 (blE l bad good)]) := by
  refine Pure.start (N := 30) Tryd.func10 rfl rfl (Nat.le_of_ble_eq_true rfl) ?_
  refine AWp.seq ?_
  refine AWp.region ?_
  refine AList.c 6 rfl rfl rfl (OpJ.assign rfl rfl) ?_
  refine AList.c 7 rfl rfl rfl (OpJ.assign rfl rfl) ?_
  refine AList.nil ?_
  refine AWp.seq ?_
  refine AWp.seq ?_
  refine AWp.region ?_
  refine AList.c 10 rfl rfl rfl (OpJ.move rfl rfl) ?_
  refine AList.c 11 rfl rfl rfl (OpJ.move rfl rfl) ?_
  refine AList.c 12 rfl rfl rfl (OpJ.move rfl rfl) ?_
  refine AList.c 13 rfl rfl rfl (OpJ.buildImm rfl slz22 (by decide) rfl rfl rfl) ?_
  refine AList.c 14 rfl rfl rfl (OpJ.callP (check_ok l [bad, good] hb (by unfold bigN; show 2 ≤ _; omega)) rfl rfl rfl rfl rf21) ?_
  refine AList.c 8 rfl rfl rfl (OpJ.assign rfl rfl) ?_
  refine AList.nil ?_
  refine AWp.seq ?_
  refine AWp.region ?_
  refine AList.c 15 rfl rfl rfl (OpJ.move rfl rfl) ?_
  refine AList.c 16 rfl rfl rfl (OpJ.neq rfl rfl rfl) ?_
  refine AList.nil ?_
  refine AWp.cond _ rfl (fun hc0 => ?_) (fun hc0 => ?_)
  · skip
    have hE : chkE l [bad, good] ≠ 0 := by simpa using hc0
    refine AWp.seq ?_
    refine AWp.region ?_
    refine AList.c 17 rfl rfl rfl (OpJ.move rfl rfl) ?_
    refine AList.c 6 rfl rfl rfl (OpJ.assign rfl rfl) ?_
    refine AList.c 7 rfl rfl rfl (OpJ.assign rfl rfl) ?_
    refine AList.nil ?_
    refine AWp.ret ?_
    refine Fin.manyE (xs := [.int .i64 0, .int .i64 (chkE l [bad, good])]) rfl (⟨_, _, rfl, rfl, ⟨_, _, rfl, rfl, rfl⟩⟩) rfl ?_
    have e : blE l bad good = chkE l [bad, good] := by unfold blE; rw [if_pos hE]
    unfold blR; rw [e, if_neg hE]; rfl
  · skip
    have hE : chkE l [bad, good] = 0 := by simpa using hc0
    have hC := (chk_ok hE).1
    have hS := (chk_ok hE).2
    have h24 := crd24 hC
    have hp24 := pw24 h24
    have hS1 := hS bad (by simp)
    have hS2 := hS good (by simp)
    refine AWp.skip ?_
    refine AWp.seq ?_
    refine AWp.seq ?_
    refine AWp.region ?_
    refine AList.c 18 rfl rfl rfl (OpJ.move rfl rfl) ?_
    refine AList.c 19 rfl rfl rfl (OpJ.eql rfl rfl rfl) ?_
    refine AList.nil ?_
    refine AWp.cond _ rfl (fun hc1 => ?_) (fun hc1 => ?_)
    · skip
      have hz : bad = 0 := by simpa using hc1
      refine AWp.seq ?_
      refine AWp.region ?_
      refine AList.c 6 rfl rfl rfl (OpJ.assign rfl rfl) ?_
      refine AList.c 7 rfl rfl rfl (OpJ.assign rfl rfl) ?_
      refine AList.nil ?_
      refine AWp.ret ?_
      refine Fin.manyE (xs := [.int .i64 0, .int .i64 4]) rfl (⟨_, _, rfl, rfl, ⟨_, _, rfl, rfl, rfl⟩⟩) rfl ?_
      have e : blE l bad good = 4 := by unfold blE; rw [if_neg (not_not_intro hE), if_pos hz]
      unfold blR; rw [e, if_neg (by decide)]; rfl
    · skip
      have hz : ¬ bad = 0 := by simpa using hc1
      obtain ⟨bad, rfl⟩ : ∃ m : Nat, bad = (m : Int) := ⟨bad.toNat, by omega⟩
      obtain ⟨good, rfl⟩ : ∃ m : Nat, good = (m : Int) := ⟨good.toNat, by omega⟩
      refine AWp.skip ?_
      refine AWp.seq ?_
      refine AWp.region ?_
      refine AList.c 20 rfl rfl rfl (OpJ.move rfl rfl) ?_
      refine AList.c 21 rfl rfl rfl (OpJ.move rfl rfl) ?_
      refine AList.c 22 rfl rfl rfl (OpJ.convInt rfl rfl (by rw [un3]; rfl) un78 (u32ok ?_)) ?_
      · unfold pw at hp24 hS1; omega
      refine AList.c 23 rfl rfl rfl (OpJ.move rfl rfl) ?_
      refine AList.c 24 rfl rfl rfl (OpJ.convInt rfl rfl (by rw [un3]; rfl) un78 (u32ok ?_)) ?_
      · unfold pw at hp24 hS2; omega
      refine AList.c 25 rfl rfl rfl (OpJ.callP (blame_ok l bad good hC (by unfold pw at hS1; omega) (by unfold pw at hS2; omega)) rfl rfl rfl rfl rf22) ?_
      refine AList.c 9 rfl rfl rfl (OpJ.assign rfl rfl) ?_
      refine AList.nil ?_
      refine AWp.seq ?_
      refine AWp.seq ?_
      refine AWp.region ?_
      refine AList.c 26 rfl rfl rfl (OpJ.move rfl rfl) ?_
      refine AList.c 27 rfl rfl rfl (OpJ.eql rfl rfl rfl) ?_
      refine AList.nil ?_
      refine AWp.cond _ rfl (fun hc2 => ?_) (fun hc2 => ?_)
      · skip
        have hn : blameN l bad good = 0 := by have h : ((blameN l bad good : Nat) : Int) = 0 := (by simpa using hc2); omega
        refine AWp.seq ?_
        refine AWp.region ?_
        refine AList.c 6 rfl rfl rfl (OpJ.assign rfl rfl) ?_
        refine AList.c 7 rfl rfl rfl (OpJ.assign rfl rfl) ?_
        refine AList.nil ?_
        refine AWp.ret ?_
        refine Fin.manyE (xs := [.int .i64 0, .int .i64 6]) rfl (⟨_, _, rfl, rfl, ⟨_, _, rfl, rfl, rfl⟩⟩) rfl ?_
        have e : blE l (bad : Int) (good : Int) = 6 := by unfold blE; rw [if_neg (not_not_intro hE), if_neg hz, if_pos (show blameN l (bad : Int).toNat (good : Int).toNat = 0 from hn)]
        unfold blR; rw [e, if_neg (by decide)]; rfl
      · skip
        have hn : ¬ blameN l bad good = 0 := by intro h; rw [h] at hc2; simp at hc2
        refine AWp.skip ?_
        refine AWp.seq ?_
        refine AWp.region ?_
        refine AList.c 28 rfl rfl rfl (OpJ.move rfl rfl) ?_
        refine AList.c 29 rfl rfl rfl (OpJ.convInt rfl rfl (by rw [un78]; rfl) un3 (i64ok ?_)) ?_
        · have h2 := blame_lt l bad good; unfold pw at hp24; omega
        refine AList.c 6 rfl rfl rfl (OpJ.assign rfl rfl) ?_
        refine AList.c 7 rfl rfl rfl (OpJ.assign rfl rfl) ?_
        refine AList.nil ?_
        refine AWp.ret ?_
        refine Fin.manyE (xs := [.int .i64 ((blameN l bad good : Nat) : Int), .int .i64 0]) rfl (⟨_, _, rfl, rfl, ⟨_, _, rfl, rfl, rfl⟩⟩) rfl ?_
        have e : blE l (bad : Int) (good : Int) = 0 := by unfold blE; rw [if_neg (not_not_intro hE), if_neg hz, if_neg (show ¬ blameN l (bad : Int).toNat (good : Int).toNat = 0 from hn)]
        unfold blR; rw [e, if_pos rfl]; rfl
end Go.Proofs.YtofenmailjdehaaDoor
