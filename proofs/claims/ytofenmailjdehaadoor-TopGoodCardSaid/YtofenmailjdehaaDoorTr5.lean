/-
  What is called back.
-/
import Derived.Test.YtofenmailjdehaaDoorTr4
set_option linter.unusedVariables false
set_option maxRecDepth 100000
set_option maxHeartbeats 4000000
set_option linter.unusedSimpArgs false
namespace Go.Proofs.YtofenmailjdehaaDoor
open Go.AF
theorem blR_of {l : List Bat} {bad good : Int} (h : blE l bad good = 0) : crdOk l ∧ (0 ≤ bad ∧ bad ≤ pw l.length - 1) ∧ (0 ≤ good ∧ good ≤ pw l.length - 1) ∧ bad ≠ 0 ∧ blR l bad good = blameN l bad.toNat good.toNat ∧ blR l bad good ≠ 0 ∧ blR l bad good < 2 ^ l.length := by
  have hR : blR l bad good = blameN l bad.toNat good.toNat := by unfold blR; rw [if_pos h]
  have h2 := h
  unfold blE at h2
  split at h2
  · rename_i h3; exact absurd h2 h3
  · rename_i h3
    have h3 : chkE l [bad, good] = 0 := by omega
    obtain ⟨hC, hS⟩ := chk_ok h3
    split at h2
    · cases h2
    · rename_i h4
      split at h2
      · cases h2
      · rename_i h5
        exact ⟨hC, hS bad (by simp), hS good (by simp), h4, hR, by rw [hR]; exact h5, by rw [hR]; exact blame_lt _ _ _⟩
theorem Recall_ok (l : List Bat) (bad good : Int) (hb : l.length ≤ bigN) : Pure Tryd.prog 11 [batV l, .int .i64 bad, .int .i64 good] (.tuple [.int .i64 ((recN l bad good : Nat) : Int), .agg [.int .i64 (recS l bad good).1, .int .i64 (recS l bad good).2], .int .i64 (blE l bad good)]) := by
  have hb2 := hb
  unfold bigN at hb2
  refine Pure.start (N := 89) Tryd.func11 rfl rfl (Nat.le_of_ble_eq_true rfl) ?_
  refine AWp.seq ?_
  refine AWp.region ?_
  refine AList.c 3 rfl rfl rfl (OpJ.boxImm rfl rfl rfl) ?_
  refine AList.c 6 rfl rfl rfl (OpJ.assign rfl rfl) ?_
  refine AList.c 7 rfl rfl rfl (OpJ.allocOwn rfl zr40 rfl) ?_
  refine AList.c 8 rfl rfl rfl (OpJ.assign rfl rfl) ?_
  refine AList.nil ?_
  refine AWp.seq ?_
  refine AWp.region ?_
  refine AList.c 21 rfl rfl rfl (OpJ.load rfl rfl ty29 rfl) ?_
  refine AList.c 22 rfl rfl rfl (OpJ.move rfl rfl) ?_
  refine AList.c 23 rfl rfl rfl (OpJ.move rfl rfl) ?_
  refine AList.c 24 rfl rfl rfl (OpJ.callP (Blame_ok l bad good hb) rfl rfl rfl rfl rf10) ?_
  refine AList.c 20 rfl rfl rfl (OpJ.move rfl rfl) ?_
  refine AList.c 25 rfl rfl rfl (OpJ.extract rfl rfl rfl) ?_
  refine AList.c 26 rfl rfl rfl (OpJ.extract rfl rfl rfl) ?_
  refine AList.c 9 rfl rfl rfl (OpJ.assign rfl rfl) ?_
  refine AList.c 8 rfl rfl rfl (OpJ.assign rfl rfl) ?_
  refine AList.nil ?_
  refine AWp.seq ?_
  refine AWp.seq ?_
  refine AWp.region ?_
  refine AList.c 27 rfl rfl rfl (OpJ.move rfl rfl) ?_
  refine AList.c 28 rfl rfl rfl (OpJ.neq rfl rfl rfl) ?_
  refine AList.nil ?_
  refine AWp.cond _ rfl (fun hc0 => ?_) (fun hc0 => ?_)
  · skip
    have hE : blE l bad good ≠ 0 := by simpa using hc0
    refine AWp.seq ?_
    refine AWp.region ?_
    refine AList.c 29 rfl rfl rfl (OpJ.build rfl bd40 rfl rfl) ?_
    refine AList.c 30 rfl rfl rfl (OpJ.move rfl rfl) ?_
    refine AList.c 6 rfl rfl rfl (OpJ.assign rfl rfl) ?_
    refine AList.c0 rfl rfl (OpJ.store rfl rfl rfl rfl rfl ty40 rfl rfl) ?_
    refine AList.c 8 rfl rfl rfl (OpJ.assign rfl rfl) ?_
    refine AList.nil ?_
    refine AWp.ret ?_
    refine Fin.manyE (xs := [.int .i64 0, .agg [.int .i64 0, .int .i64 0], .int .i64 (blE l bad good)]) rfl (⟨_, _, rfl, rfl, ⟨_, _, rfl, ⟨_, _, _, rfl, ty40, rfl⟩, ⟨_, _, rfl, rfl, rfl⟩⟩⟩) rfl ?_
    unfold recN recS; rw [if_neg hE, if_neg hE]; rfl
  · skip
    have hE : blE l bad good = 0 := by simpa using hc0
    obtain ⟨hC, _, _, _, hR, hne, hcl⟩ := blR_of hE
    have h24 := crd24 hC
    have hp24 := Nat.pow_le_pow_right (show 0 < 2 by omega) h24
    have hc32 : blR l bad good < 2 ^ 32 := by omega
    have hso : soldN l < 2 ^ l.length := sold_lt l l.length
    refine AWp.skip ?_
    refine AWp.seq ?_
    refine AWp.region ?_
    refine AList.c 10 rfl rfl rfl (OpJ.allocOwn rfl zr78 rfl) ?_
    refine AList.nil ?_
    refine AWp.seq ?_
    refine AWp.seq ?_
    refine AWp.region ?_
    refine AList.c 31 rfl rfl rfl (OpJ.load rfl rfl ty29 rfl) ?_
    refine AList.c 32 rfl rfl rfl (OpJ.lenSlice rfl rfl sl29 rfl) ?_
    refine AList.c 33 rfl rfl rfl (OpJ.move rfl rfl) ?_
    refine AList.nil ?_
    refine AWp.block ?_
    refine AWp.norm [0, 1] [(3, _), (7, _), (9, _), (10, _), (31, _), (32, _), (33, _)] [_, _] rfl (by repeat (first | exact Sub.nil | refine Sub.cons rfl ?_)) rfl ?_
    refine AWp.loopHL [3, 6, 7, 8, 9, 10, 13, 14, 15, 16, 17, 18, 19, 31, 32, 47, 48, 49, 50, 51, 52, 53, 54, 55, 56, 57, 58, 59, 60, 61, 62, 63, 64, 65, 66, 67, 68, 69, 70, 71, 72, 73, 74, 75, 76, 77, 78, 79, 80, 81, 82, 83, 84, 85, 86, 87, 88] (fun g => [(33, .p (.int .i64 ((g : Nat) : Int)))]) (fun g => [.cells [.p (.int .i64 0), .p (.int .i64 0)] 40, .cells [.p (.int .u32 ((soldF l g : Nat) : Int))] 78]) (fun g => g ≤ l.length) (fun g => l.length - g) 0 (Nat.zero_le _) (To.sub (Sub.chk (Sub.cons rfl (Sub.nil)))) (fun i hg => ?_)
    refine AWp.seq ?_
    refine AWp.region ?_
    refine AList.c 34 rfl rfl rfl (OpJ.lss rfl rfl rfl) ?_
    refine AList.nil ?_
    refine AWp.seq ?_
    refine AWp.cond _ rfl (fun hc1 => ?_) (fun hc1 => ?_)
    · skip
      have hk0 : i < l.length := by have h := of_decide_eq_true hc1; omega
      have hsi := sold_lt l i
      have hpi := Nat.pow_le_pow_right (show 0 < 2 by omega) (show i ≤ 24 by omega)
      refine AWp.skip ?_
      refine AWp.seq ?_
      refine AWp.block ?_
      refine AWp.seq ?_
      refine AWp.region ?_
      refine AList.c 35 rfl rfl rfl (OpJ.move rfl rfl) ?_
      refine AList.c 36 rfl rfl rfl (OpJ.indexG (g := bt l) bt_get rfl rfl rfl sl29 el29 rfl (fun _ => rfl) (by decide) hk0) ?_
      refine AList.c 37 rfl rfl rfl (OpJ.load (v := .p (.agg (bt l i).cells)) rfl rfl ty31 rfl) ?_
      refine AList.c 12 rfl rfl rfl (OpJ.allocOwn rfl zr31 rfl) ?_
      refine AList.c 11 rfl rfl rfl (OpJ.assign rfl rfl) ?_
      refine AList.c0 rfl rfl (OpJ.store (H' := [.cells [.p (.int .i64 0), .p (.int .i64 0)] 40, .cells [.p (.int .u32 ((soldF l i : Nat) : Int))] 78, .cells ((bt l i).cells.map .p) 31]) rfl rfl rfl rfl rfl ty31 rfl rfl) ?_
      refine AList.nil ?_
      refine AWp.seq ?_
      refine AWp.region ?_
      refine AList.c 38 rfl rfl rfl (OpJ.fieldAddr rfl rfl fd31_1 rfl) ?_
      refine AList.c 39 rfl rfl rfl (OpJ.load (v := .p (.int .i64 (bt l i).s)) rfl rfl ty3 rfl) ?_
      refine AList.c 40 rfl rfl rfl (OpJ.gtr rfl rfl rfl) ?_
      refine AList.nil ?_
      refine AWp.cond _ rfl (fun hc2 => ?_) (fun hc2 => ?_)
      · skip
        have hF : soldF l (i + 1) = soldF l i ||| 2 ^ i := by rw [soldF_or, if_pos (of_decide_eq_true hc2)]
        refine AWp.regionDraw 5 mixed (by kernel_rfl) (by decide) ?_
        refine AQuiet.cons 41 rfl rfl rfl (OpJ.load (v := .p (.int .u32 ((soldF l i : Nat) : Int))) rfl rfl ty78 rfl) ?_
        refine AQuiet.cons 42 rfl rfl rfl (OpJ.move rfl rfl) ?_
        refine AQuiet.cons 43 rfl rfl rfl (OpJ.shlN 1 i rfl rfl rfl (by show _ ≤ (32 : Nat); omega) (by show _ ≤ (4294967295 : Int); rw [Nat.one_mul]; omega)) ?_
        refine AQuiet.cons 44 rfl rfl rfl (OpJ.buildImm rfl slz126 (by decide) rfl rfl rfl) ?_
        refine AQuiet.cons 45 rfl rfl rfl (OpJ.callP (join_ok [soldF l i, 1 * 2 ^ i] (by intro x hx; simp at hx; rcases hx with rfl | rfl; { omega }; { omega }) (by unfold bigN; show 2 ≤ _; omega)) rfl rfl rfl rfl rf23) ?_
        rw [or2, Nat.one_mul, ← hF]
        refine AQuiet.nil ?_
        refine AList.c0 rfl rfl (OpJ.store rfl rfl rfl rfl rfl ty78 rfl rfl) ?_
        refine AList.nil ?_
        refine AWp.region ?_
        refine AList.c 46 rfl rfl rfl (OpJ.add rfl rfl rfl (i64ok ?_)) ?_
        · omega
        refine AList.c 33 rfl rfl rfl (OpJ.move rfl rfl) ?_
        refine AList.nil ?_
        refine ⟨i + 1, ?_, ?_, ?_⟩
        · omega
        · omega
        refine To.done [0, 1] rfl (by repeat (first | exact Sub.nil | refine Sub.cons rfl ?_)) ?_
        rw [hF]
        rfl
      · skip
        have hF : soldF l (i + 1) = soldF l i := by rw [soldF_or, if_neg (of_decide_eq_false hc2)]
        refine AWp.skip ?_
        refine AWp.region ?_
        refine AList.c 46 rfl rfl rfl (OpJ.add rfl rfl rfl (i64ok ?_)) ?_
        · omega
        refine AList.c 33 rfl rfl rfl (OpJ.move rfl rfl) ?_
        refine AList.nil ?_
        refine ⟨i + 1, ?_, ?_, ?_⟩
        · omega
        · omega
        refine To.done [0, 1] rfl (by repeat (first | exact Sub.nil | refine Sub.cons rfl ?_)) ?_
        rw [hF]
        rfl
    · skip
      obtain rfl : i = l.length := by have h := of_decide_eq_false hc1; omega
      refine AWp.exit ?_
      refine AWp.seq ?_
      refine AWp.region ?_
      refine AList.c 13 rfl rfl rfl (OpJ.allocOwn rfl zr78 rfl) ?_
      refine AList.nil ?_
      refine AWp.seq ?_
      refine AWp.region ?_
      refine AList.c 47 rfl rfl rfl (OpJ.load rfl rfl ty29 rfl) ?_
      refine AList.c 48 rfl rfl rfl (OpJ.callP (newAhead_ok l hC) rfl rfl rfl rfl rf24) ?_
      refine AList.c 14 rfl rfl rfl (OpJ.allocOwn rfl zr82 rfl) ?_
      refine AList.c0 rfl rfl (OpJ.store rfl rfl rfl rfl rfl ty82 rfl rfl) ?_
      refine AList.nil ?_
      refine AWp.seq ?_
      refine AWp.region ?_
      refine AList.c 15 rfl rfl rfl (OpJ.allocOwn rfl zr4 rfl) ?_
      refine AList.c0 rfl rfl (OpJ.store rfl rfl rfl rfl rfl ty4 rfl rfl) ?_
      refine AList.nil ?_
      refine AWp.seq ?_
      refine AWp.seq ?_
      refine AWp.region ?_
      refine AList.c 49 rfl rfl rfl (OpJ.move rfl rfl) ?_
      refine AList.c 50 rfl rfl rfl (OpJ.convInt rfl rfl (by rw [un3]; rfl) un78 (u32ok ?_)) ?_
      · omega
      refine AList.c 51 rfl rfl rfl (OpJ.callP (all_ok (blR l bad good)) rfl rfl rfl rfl rf25) ?_
      refine AList.nil ?_
      refine AWp.block ?_
      refine AWp.rangeFunc 0 rfl (fun _ => rfl) rf48 (all_seq (blR l bad good) hc32) (Nat.le_refl _) (Nat.zero_le _) (fun _ h => by cases h) (fun x hx => by unfold bitsX at hx; simp at hx; obtain ⟨j, _, rfl⟩ := hx; rfl) rfl (fun k h => h = [.cells [.p (.int .i64 (spF (((bitsN (blR l bad good) 32).take k).map (cntN l))).1), .p (.int .i64 (spF (((bitsN (blR l bad good) 32).take k).map (cntN l))).2)] 40, .cells [.p (.int .u32 ((soldN l : Nat) : Int))] 78, .cells [.p (.int .u32 ((orL (((bitsN (blR l bad good) 32).take k).map (ownN l)) : Nat) : Int))] 78, .cells [.p (ahdV l)] 82, .cells [.p (.bool (decide (k = 0)))] 4]) (fun c h => False) (fun _ _ h => by rw [h]; rfl) (fun _ _ h => h.elim) rfl ?_ ?_ ?_
      · skip
        intro lx tmps k h x hJ hx
        subst hJ
        obtain ⟨q, hq, rfl⟩ := bitsX_get hx
        have hqm := bits_mem.1 (List.mem_of_getElem? hq)
        have hql : q < l.length := bit_of_lt hcl hqm.2
        have hol := own_lt l q
        have hal := (way_ahead hC).rlt q hql
        have how : ownN l q < 2 ^ 32 := by omega
        have horl : orL (((bitsN (blR l bad good) 32).take k).map (ownN l)) < 2 ^ 32 := orL_lt fun x hx => by obtain ⟨j, _, rfl⟩ := List.mem_map.1 hx; have := own_lt l j; omega
        have eO : orL ((((bitsN (blR l bad good) 32).take k) ++ [q]).map (ownN l)) = orL (((bitsN (blR l bad good) 32).take k).map (ownN l) ++ [ownN l q]) := by rw [List.map_append]; rfl
        refine AWp.region ?_
        refine AList.c 16 rfl rfl rfl (OpJ.assign rfl rfl) ?_
        refine AList.nil ?_
        refine ⟨rfl, rfl, ?_⟩
        refine AWp.block ?_
        refine AWp.seq ?_
        refine AWp.regionDrawC 9 mixed (by kernel_rfl) (by decide) ?_
        refine AQuietC.cons 53 rfl rfl rfl (OpJ.load (v := .p (ahdV l)) rfl rfl ty82 rfl) (fun _ => (OpJ.load (v := .p (ahdV l)) rfl rfl ty82 rfl)) ?_
        refine AQuietC.cons 54 rfl rfl rfl (OpJ.makeIface rfl rfl con82) (fun _ => (OpJ.makeIface rfl rfl con82)) ?_
        refine AQuietC.cons 55 rfl rfl rfl (OpJ.move rfl rfl) (fun _ => (OpJ.move rfl rfl)) ?_
        refine AQuietC.cons 56 rfl rfl rfl (OpJ.callP (reach_ok (way_ahead hC) h24 _ _ (nx_ahead l hC) q hql) rfl rfl rfl rfl rf26) (fun _ => (OpJ.callP (reach_ok (way_ahead hC) h24 _ _ (nx_ahead l hC) q hql) rfl rfl rfl rfl rf26)) ?_
        refine AQuietC.cons 57 rfl rfl rfl (OpJ.load (v := .p (.int .u32 ((soldN l : Nat) : Int))) rfl rfl ty78 rfl) (fun _ => (OpJ.load (v := .p (.int .u32 ((soldN l : Nat) : Int))) rfl rfl ty78 rfl)) ?_
        refine AQuietC.cons 58 rfl rfl rfl (OpJ.andN (aheadN l q) (soldN l) rfl rfl rfl (by first | (show _ ≤ (9223372036854775807 : Int); omega) | (show _ ≤ (4294967295 : Int); omega)) (by first | decide | (show _ ≤ (9223372036854775807 : Int); omega) | (show _ ≤ (4294967295 : Int); omega))) (fun _ => (OpJ.andN (aheadN l q) (soldN l) rfl rfl rfl (by first | (show _ ≤ (9223372036854775807 : Int); omega) | (show _ ≤ (4294967295 : Int); omega)) (by first | decide | (show _ ≤ (9223372036854775807 : Int); omega) | (show _ ≤ (4294967295 : Int); omega)))) ?_
        refine AQuietC.lay 18 rfl rfl rfl (OpJ.allocOwn rfl zr3 rfl) ?_
        refine AQuietC.cons 17 rfl rfl rfl (OpJ.assign rfl rfl) (fun _ => (OpJ.assign rfl rfl)) ?_
        refine AQuietC.put rfl rfl (by decide) (OpJ.store rfl rfl rfl rfl rfl ty3 rfl rfl) rfl ?_
        refine AQuietC.nil ?_
        refine AList.nil ?_
        refine AWp.seq ?_
        refine AWp.seq ?_
        refine AWp.region ?_
        refine AList.c 59 rfl rfl rfl (OpJ.move rfl rfl) ?_
        refine AList.c 60 rfl rfl rfl (OpJ.callP (all_ok (ownN l q)) rfl rfl rfl rfl rf25) ?_
        refine AList.nil ?_
        refine AWp.block ?_
        refine AWp.rangeFuncH 0 rfl (fun _ => rfl) rf48 (all_seq (ownN l q) how) (Nat.le_refl _) (Nat.zero_le _) (fun l0 h => ⟨5, _, _, _, Option.some.inj h, rfl⟩) (fun x hx => by unfold bitsX at hx; simp at hx; obtain ⟨j, _, rfl⟩ := hx; rfl) rfl (fun H k2 h => h = H.set 6 (.cells [.p (.int .i64 (sumK l ((bitsN (ownN l q) 32).take k2)))] 3)) (fun H c h => False) (fun _ _ h => by rw [h]; rfl) (fun _ _ h => h.elim) rfl ?_ ?_ ?_
        · skip
          intro lx2 tmps2 k2 h x hJ hx
          subst hJ
          obtain ⟨q2, hq2, rfl⟩ := bitsX_get hx
          have hq2l := own_ks (List.mem_of_getElem? hq2)
          have hB1 := cnt_B hC q k2
          have hB2 := (hC q2 hq2l).2.2
          refine AWp.region ?_
          refine AList.c 19 rfl rfl rfl (OpJ.assign rfl rfl) ?_
          refine AList.nil ?_
          refine ⟨rfl, rfl, ?_⟩
          refine AWp.block ?_
          refine AWp.regionDraw 7 mixed (by kernel_rfl) (by decide) ?_
          refine AQuiet.cons 62 rfl rfl rfl (OpJ.load (v := .p (.int .i64 (sumK l ((bitsN (ownN l q) 32).take k2)))) rfl rfl ty3 rfl) ?_
          refine AQuiet.cons 63 rfl rfl rfl (OpJ.load rfl rfl ty29 rfl) ?_
          refine AQuiet.cons 64 rfl rfl rfl (OpJ.move rfl rfl) ?_
          refine AQuiet.cons 65 rfl rfl rfl (OpJ.indexG (g := bt l) bt_get rfl rfl rfl sl29 el29 rfl (fun _ => rfl) (by decide) hq2l) ?_
          refine AQuiet.cons 66 rfl rfl rfl (OpJ.fieldAddr rfl rfl fd31_1 rfl) ?_
          refine AQuiet.cons 67 rfl rfl rfl (OpJ.load (v := .p (.int .i64 (bt l q2).s)) rfl rfl ty3 rfl) ?_
          refine AQuiet.cons 68 rfl rfl rfl (OpJ.add rfl rfl rfl (i64ok ?_)) ?_
          · omega
          refine AQuiet.nil ?_
          refine AList.c0 rfl rfl (OpJ.store rfl rfl rfl rfl rfl ty3 rfl rfl) ?_
          refine AList.nil ?_
          exact ⟨_, rfl, by rw [take_snoc hq2, sumK_snoc]; exact To.sub Sub.nil⟩
        · skip
          intro h hJ
          subst hJ
          rw [bitsX_len, List.take_length]
          refine AWp.seq ?_
          refine AWp.region ?_
          refine AList.c 69 rfl rfl rfl (OpJ.load (v := .p (.int .u32 ((orL (((bitsN (blR l bad good) 32).take k).map (ownN l)) : Nat) : Int))) rfl rfl ty78 rfl) ?_
          refine AList.c 70 rfl rfl rfl (OpJ.move rfl rfl) ?_
          refine AList.c 71 rfl rfl rfl (OpJ.buildImm rfl slz126 (by decide) rfl rfl rfl) ?_
          refine AList.c 72 rfl rfl rfl (OpJ.callP (join_ok [orL (((bitsN (blR l bad good) 32).take k).map (ownN l)), ownN l q] (by intro x hx; simp only [List.mem_cons, List.not_mem_nil, or_false] at hx; rcases hx with rfl | rfl; { exact horl }; { omega }) (by unfold bigN; show 2 ≤ _; omega)) rfl rfl rfl rfl rf23) ?_
          rw [or2, ← orL_snoc, ← eO]
          refine AList.c0 rfl rfl (OpJ.store rfl rfl rfl rfl rfl ty78 rfl rfl) ?_
          refine AList.nil ?_
          refine AWp.seq ?_
          refine AWp.seq ?_
          refine AWp.region ?_
          refine AList.c 73 rfl rfl rfl (OpJ.load (v := .p (.bool (decide (k = 0)))) rfl rfl ty4 rfl) ?_
          refine AList.nil ?_
          refine AWp.cond _ rfl (fun hc3 => ?_) (fun hc3 => ?_)
          · skip
            obtain rfl : 0 = k := by have h := of_decide_eq_true hc3; omega
            have e2 : spF ((((bitsN (blR l bad good) 32).take 0) ++ [q]).map (cntN l)) = (min (cntN l q) (cntN l q), max (cntN l q) (cntN l q)) := by show (cntN l q, cntN l q) = _; rw [Int.min_self, Int.max_self]
            have e3 : decide (0 + 1 = 0) = false := rfl
            refine AWp.region ?_
            refine AList.c 74 rfl rfl rfl (OpJ.load (v := .p (.int .i64 (cntN l q))) rfl rfl ty3 rfl) ?_
            refine AList.c 75 rfl rfl rfl (OpJ.load (v := .p (.int .i64 (cntN l q))) rfl rfl ty3 rfl) ?_
            refine AList.c 76 rfl rfl rfl (OpJ.build rfl bd40 rfl rfl) ?_
            refine AList.c0 rfl rfl (OpJ.store rfl rfl rfl rfl rfl ty40 rfl rfl) ?_
            refine AList.c0 rfl rfl (OpJ.store rfl rfl rfl rfl rfl ty4 rfl rfl) ?_
            refine AList.nil ?_
            refine AWp.region ?_
            refine AList.c 77 rfl rfl rfl (OpJ.fieldAddr rfl rfl fd40_0 rfl) ?_
            refine AList.c 78 rfl rfl rfl (OpJ.load rfl rfl ty3 rfl) ?_
            refine AList.c 79 rfl rfl rfl (OpJ.load (v := .p (.int .i64 (cntN l q))) rfl rfl ty3 rfl) ?_
            refine AList.c 80 rfl rfl rfl (OpJ.min2 rfl rfl rfl) ?_
            refine AList.c 81 rfl rfl rfl (OpJ.fieldAddr rfl rfl fd40_1 rfl) ?_
            refine AList.c 82 rfl rfl rfl (OpJ.load rfl rfl ty3 rfl) ?_
            refine AList.c 83 rfl rfl rfl (OpJ.load (v := .p (.int .i64 (cntN l q))) rfl rfl ty3 rfl) ?_
            refine AList.c 84 rfl rfl rfl (OpJ.max2 rfl rfl rfl) ?_
            refine AList.c 85 rfl rfl rfl (OpJ.build rfl bd40 rfl rfl) ?_
            refine AList.c0 rfl rfl (OpJ.store rfl rfl rfl rfl rfl ty40 rfl rfl) ?_
            refine AList.nil ?_
            refine ⟨_, rfl, To.done [0, 1, 2, 3, 4, 5] rfl Sub.nil ?_⟩
            rw [take_snoc hq, e2, e3]
            rfl
          · skip
            have hk0 : ¬ k = 0 := of_decide_eq_false hc3
            have e2 : spF ((((bitsN (blR l bad good) 32).take k) ++ [q]).map (cntN l)) = (min (spF (((bitsN (blR l bad good) 32).take k).map (cntN l))).1 (cntN l q), max (spF (((bitsN (blR l bad good) 32).take k).map (cntN l))).2 (cntN l q)) := by rw [List.map_append]; exact spF_snoc _ _ (by intro h; have h2 := congrArg List.length h; have h3 := (List.getElem?_eq_some_iff.1 hq).1; rw [List.length_map, List.length_take, List.length_nil] at h2; omega)
            have e3 : decide (k + 1 = 0) = decide (k = 0) := by rw [decide_eq_false hk0, decide_eq_false (by omega)]
            refine AWp.skip ?_
            refine AWp.region ?_
            refine AList.c 77 rfl rfl rfl (OpJ.fieldAddr rfl rfl fd40_0 rfl) ?_
            refine AList.c 78 rfl rfl rfl (OpJ.load rfl rfl ty3 rfl) ?_
            refine AList.c 79 rfl rfl rfl (OpJ.load (v := .p (.int .i64 (cntN l q))) rfl rfl ty3 rfl) ?_
            refine AList.c 80 rfl rfl rfl (OpJ.min2 rfl rfl rfl) ?_
            refine AList.c 81 rfl rfl rfl (OpJ.fieldAddr rfl rfl fd40_1 rfl) ?_
            refine AList.c 82 rfl rfl rfl (OpJ.load rfl rfl ty3 rfl) ?_
            refine AList.c 83 rfl rfl rfl (OpJ.load (v := .p (.int .i64 (cntN l q))) rfl rfl ty3 rfl) ?_
            refine AList.c 84 rfl rfl rfl (OpJ.max2 rfl rfl rfl) ?_
            refine AList.c 85 rfl rfl rfl (OpJ.build rfl bd40 rfl rfl) ?_
            refine AList.c0 rfl rfl (OpJ.store rfl rfl rfl rfl rfl ty40 rfl rfl) ?_
            refine AList.nil ?_
            refine ⟨_, rfl, To.done [0, 1, 2, 3, 4, 5] rfl Sub.nil ?_⟩
            rw [take_snoc hq, e2, e3]
            rfl
        · skip
          intro c h hx
          exact hx.elim
      · skip
        intro h hJ
        subst hJ
        rw [bitsX_len, List.take_length]
        refine AWp.seq ?_
        refine AWp.regionDraw 4 mixed (by kernel_rfl) (by decide) ?_
        refine AQuiet.cons 86 rfl rfl rfl (OpJ.load (v := .p (.int .u32 ((callN l (blR l bad good) : Nat) : Int))) rfl rfl ty78 rfl) ?_
        refine AQuiet.cons 87 rfl rfl rfl (OpJ.convInt rfl rfl (by rw [un78]; rfl) un3 (i64ok ?_)) ?_
        · have := call_lt h24 hcl; omega
        refine AQuiet.cons 88 rfl rfl rfl (OpJ.load (v := .p (.agg [.int .i64 (spanN l (blR l bad good)).1, .int .i64 (spanN l (blR l bad good)).2])) rfl rfl ty40 rfl) ?_
        refine AQuiet.cons 6 rfl rfl rfl (OpJ.assign rfl rfl) ?_
        refine AQuiet.nil ?_
        refine AList.c0 rfl rfl (OpJ.store rfl rfl rfl rfl rfl ty40 rfl rfl) ?_
        refine AList.c 8 rfl rfl rfl (OpJ.assign rfl rfl) ?_
        refine AList.nil ?_
        refine AWp.ret ?_
        refine Fin.manyE (xs := [.int .i64 ((callN l (blR l bad good) : Nat) : Int), .agg [.int .i64 (spanN l (blR l bad good)).1, .int .i64 (spanN l (blR l bad good)).2], .int .i64 0]) rfl (⟨_, _, rfl, rfl, ⟨_, _, rfl, ⟨_, _, _, rfl, ty40, rfl⟩, ⟨_, _, rfl, rfl, rfl⟩⟩⟩) rfl ?_
        unfold recN recS; rw [hE, if_pos rfl, if_pos rfl]
      · skip
        intro c h hx
        exact hx.elim
end Go.Proofs.YtofenmailjdehaaDoor
