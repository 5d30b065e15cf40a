/-
  Looks, ends, sets one after the other.
-/
import Derived.Test.YtofenmailjdehaaDoorXrFacts
import Derived.Test.YtofenmailjdehaaDoorXr1
import Derived.Test.YtofenmailjdehaaDoorXrQ
set_option linter.unusedVariables false
set_option maxRecDepth 100000
set_option maxHeartbeats 4000000
set_option linter.unusedSimpArgs false
namespace Go.Proofs.YtofenmailjdehaaDoor
open Go.AF
theorem good_ok (x : Lk) (a b : Nat) (h1 : 0 ≤ x.r) (h2 : 0 ≤ x.c) (ha : a < 256) (hb : b < 256) : Pure Tryd.prog 104 [.agg x.cells, .agg [.int .i64 (a : Int), .int .i64 (b : Int)]] (.bool (!badB a b x.r.toNat x.c.toNat)) := by
  obtain ⟨r, hr⟩ : ∃ n : Nat, x.r = n := ⟨x.r.toNat, by omega⟩
  obtain ⟨k, hk⟩ : ∃ n : Nat, x.c = n := ⟨x.c.toNat, by omega⟩
  refine Pure.start (N := 12) Tryd.func104 rfl rfl (Nat.le_of_ble_eq_true rfl) ?_
  refine AWp.seq ?_
  refine AWp.region ?_
  refine AList.c 2 rfl rfl rfl (OpJ.boxImm rfl rfl rfl) ?_
  refine AList.c 3 rfl rfl rfl (OpJ.boxImm rfl rfl rfl) ?_
  refine AList.c 4 rfl rfl rfl (OpJ.assign rfl rfl) ?_
  refine AList.nil ?_
  refine AWp.seq ?_
  refine AWp.region ?_
  refine AList.c 5 rfl rfl rfl (OpJ.load (v := .p (.agg [.int .i64 (a : Int), .int .i64 (b : Int)])) rfl rfl ty120 rfl) ?_
  refine AList.c 6 rfl rfl rfl (OpJ.fieldAddr rfl rfl fd148_0 rfl) ?_
  refine AList.c 7 rfl rfl rfl (OpJ.load (v := .p (.int .i64 x.r)) rfl rfl ty3 rfl) ?_
  refine AList.c 8 rfl rfl rfl (OpJ.fieldAddr rfl rfl fd148_1 rfl) ?_
  refine AList.c 9 rfl rfl rfl (OpJ.load (v := .p (.int .i64 x.c)) rfl rfl ty3 rfl) ?_
  rw [hr, hk]
  refine AList.c 10 rfl rfl rfl (OpJ.callP (xbad_ok a b r k ha hb) rfl rfl rfl rfl rf72) ?_
  refine AList.c 11 rfl rfl rfl (OpJ.not_ rfl rfl) ?_
  refine AList.c 4 rfl rfl rfl (OpJ.assign rfl rfl) ?_
  refine AList.nil ?_
  refine AWp.ret ?_
  exact Fin.one rfl (rfl)
theorem badf_ok (x : Lk) (a b : Nat) (h1 : 0 ≤ x.r) (h2 : 0 ≤ x.c) (ha : a < 256) (hb : b < 256) : Pure Tryd.prog 105 [.agg x.cells, .agg [.int .i64 (a : Int), .int .i64 (b : Int)]] (.bool (badB a b x.r.toNat x.c.toNat)) := by
  obtain ⟨r, hr⟩ : ∃ n : Nat, x.r = n := ⟨x.r.toNat, by omega⟩
  obtain ⟨k, hk⟩ : ∃ n : Nat, x.c = n := ⟨x.c.toNat, by omega⟩
  refine Pure.start (N := 11) Tryd.func105 rfl rfl (Nat.le_of_ble_eq_true rfl) ?_
  refine AWp.seq ?_
  refine AWp.region ?_
  refine AList.c 2 rfl rfl rfl (OpJ.boxImm rfl rfl rfl) ?_
  refine AList.c 3 rfl rfl rfl (OpJ.boxImm rfl rfl rfl) ?_
  refine AList.c 4 rfl rfl rfl (OpJ.assign rfl rfl) ?_
  refine AList.nil ?_
  refine AWp.seq ?_
  refine AWp.region ?_
  refine AList.c 5 rfl rfl rfl (OpJ.load (v := .p (.agg [.int .i64 (a : Int), .int .i64 (b : Int)])) rfl rfl ty120 rfl) ?_
  refine AList.c 6 rfl rfl rfl (OpJ.fieldAddr rfl rfl fd149_0 rfl) ?_
  refine AList.c 7 rfl rfl rfl (OpJ.load (v := .p (.int .i64 x.r)) rfl rfl ty3 rfl) ?_
  refine AList.c 8 rfl rfl rfl (OpJ.fieldAddr rfl rfl fd149_1 rfl) ?_
  refine AList.c 9 rfl rfl rfl (OpJ.load (v := .p (.int .i64 x.c)) rfl rfl ty3 rfl) ?_
  rw [hr, hk]
  refine AList.c 10 rfl rfl rfl (OpJ.callP (xbad_ok a b r k ha hb) rfl rfl rfl rfl rf72) ?_
  refine AList.c 4 rfl rfl rfl (OpJ.assign rfl rfl) ?_
  refine AList.nil ?_
  refine AWp.ret ?_
  exact Fin.one rfl (rfl)
theorem nothing_ok (x : Lk) (a b : Nat) : Pure Tryd.prog 106 [.agg x.cells, .agg [.int .i64 (a : Int), .int .i64 (b : Int)]] (.bool true) := by
  refine Pure.start (N := 5) Tryd.func106 rfl rfl (Nat.le_of_ble_eq_true rfl) ?_
  refine AWp.seq ?_
  refine AWp.region ?_
  refine AList.c 2 rfl rfl rfl (OpJ.boxImm rfl rfl rfl) ?_
  refine AList.c 3 rfl rfl rfl (OpJ.boxImm rfl rfl rfl) ?_
  refine AList.c 4 rfl rfl rfl (OpJ.assign rfl rfl) ?_
  refine AList.nil ?_
  refine AWp.seq ?_
  refine AWp.region ?_
  refine AList.c 4 rfl rfl rfl (OpJ.assign rfl rfl) ?_
  refine AList.nil ?_
  refine AWp.ret ?_
  exact Fin.one rfl (rfl)
theorem lookOf_ok (x : Lk) (h1 : 0 ≤ x.s) (h2 : x.s ≤ 2) : Pure Tryd.prog 41 [.agg x.cells] (lookV x) := by
  refine Pure.start (N := 13) Tryd.func41 rfl rfl (Nat.le_of_ble_eq_true rfl) ?_
  refine AWp.seq ?_
  refine AWp.region ?_
  refine AList.c 1 rfl rfl rfl (OpJ.boxImm rfl rfl rfl) ?_
  refine AList.c 2 rfl rfl rfl (OpJ.assign rfl rfl) ?_
  refine AList.nil ?_
  refine AWp.seq ?_
  refine AWp.region ?_
  refine AList.c 3 rfl rfl rfl (OpJ.load (v := .p (.agg x.cells)) rfl rfl ty33 rfl) ?_
  refine AList.c 4 rfl rfl rfl (OpJ.makeIface rfl rfl con148) ?_
  refine AList.c 5 rfl rfl rfl (OpJ.load (v := .p (.agg x.cells)) rfl rfl ty33 rfl) ?_
  refine AList.c 6 rfl rfl rfl (OpJ.makeIface rfl rfl con149) ?_
  refine AList.c 7 rfl rfl rfl (OpJ.load (v := .p (.agg x.cells)) rfl rfl ty33 rfl) ?_
  refine AList.c 8 rfl rfl rfl (OpJ.makeIface rfl rfl con150) ?_
  refine AList.c 9 rfl rfl rfl (OpJ.buildR (v := .p (.agg [.iface 148 (.agg x.cells), .iface 149 (.agg x.cells), .iface 150 (.agg x.cells)])) rfl bd151 rfl rfl rfl) ?_
  refine AList.c 10 rfl rfl rfl (OpJ.fieldAddr rfl rfl fd33_2 rfl) ?_
  refine AList.c 11 rfl rfl rfl (OpJ.load (v := .p (.int .i64 x.s)) rfl rfl ty3 rfl) ?_
  refine AList.c 12 rfl rfl rfl (OpJ.indexV (v := .p (lookV x)) rfl rfl rfl av151 (by omega) (by show x.s < ((3 : Nat) : Int); omega) (by obtain ⟨r, c, s⟩ := x; dsimp only at h1 h2; obtain rfl | rfl | rfl : s = 0 ∨ s = 1 ∨ s = 2 := (by omega); { rfl }; { rfl }; { rfl })) ?_
  refine AList.c 2 rfl rfl rfl (OpJ.assign rfl rfl) ?_
  refine AList.nil ?_
  refine AWp.ret ?_
  exact Fin.one rfl (rfl)
theorem fits_F (x : Lk) (a b : Nat) (h1 : 0 ≤ x.r) (h2 : 0 ≤ x.c) (ha : a < 256) (hb : b < 256) : FIface Tryd.prog "pencilworks/xray.fits" (lookV x) [.agg [.int .i64 (a : Int), .int .i64 (b : Int)]] (.bool (fitB a b x)) := by
  unfold lookV fitB
  by_cases e0 : x.s = 0
  · rw [if_pos e0, if_pos e0]
    exact ⟨148, _, 104, rfl, by kernel_rfl, rf104, good_ok x a b h1 h2 ha hb⟩
  · rw [if_neg e0, if_neg e0]
    by_cases e1 : x.s = 1
    · rw [if_pos e1, if_pos e1]
      exact ⟨149, _, 105, rfl, by kernel_rfl, rf105, badf_ok x a b h1 h2 ha hb⟩
    · rw [if_neg e1, if_neg e1]
      exact ⟨150, _, 106, rfl, by kernel_rfl, rf106, nothing_ok x a b⟩
theorem ends_ok (n : Int) (l : List Int) (hb : l.length ≤ bigN) : Pure Tryd.prog 71 [.int .i64 n, intsV l] (.tuple [.int .i64 (minK n l l.length), .int .i64 (maxK n l l.length)]) := by
  unfold bigN at hb
  refine Pure.start (N := 25) Tryd.func71 rfl rfl (Nat.le_of_ble_eq_true rfl) ?_
  refine AWp.seq ?_
  refine AWp.region ?_
  refine AList.c 4 rfl rfl rfl (OpJ.assign rfl rfl) ?_
  refine AList.c 5 rfl rfl rfl (OpJ.assign rfl rfl) ?_
  refine AList.nil ?_
  refine AWp.seq ?_
  refine AWp.region ?_
  refine AList.c 8 rfl rfl rfl (OpJ.move rfl rfl) ?_
  refine AList.c 9 rfl rfl rfl (OpJ.move rfl rfl) ?_
  refine AList.c 4 rfl rfl rfl (OpJ.assign rfl rfl) ?_
  refine AList.c 5 rfl rfl rfl (OpJ.assign rfl rfl) ?_
  refine AList.nil ?_
  refine AWp.seq ?_
  refine AWp.seq ?_
  refine AWp.region ?_
  refine AList.c 10 rfl rfl rfl (OpJ.move rfl rfl) ?_
  refine AList.c 11 rfl rfl rfl (OpJ.lenSlice rfl rfl sl22 rfl) ?_
  refine AList.c 12 rfl rfl rfl (OpJ.move rfl rfl) ?_
  refine AList.nil ?_
  refine AWp.block ?_
  refine AWp.loopKL [10, 11, 23, 24] (fun g => [(12, .p (.int .i64 ((g : Nat) : Int))), (4, .p (.int .i64 (minK n l g))), (5, .p (.int .i64 (maxK n l g)))]) (fun g => g ≤ l.length) (fun g => l.length - g) 0 (Nat.zero_le _) (Sub.cons rfl (Sub.cons rfl (Sub.cons rfl (Sub.nil)))) (fun i hg => ?_)
  refine AWp.seq ?_
  refine AWp.region ?_
  refine AList.c 13 rfl rfl rfl (OpJ.lss rfl rfl rfl) ?_
  refine AList.nil ?_
  refine AWp.seq ?_
  refine AWp.cond _ rfl (fun hc0 => ?_) (fun hc0 => ?_)
  · skip
    have hk0 : i < l.length := by have h := of_decide_eq_true hc0; omega
    refine AWp.skip ?_
    refine AWp.seq ?_
    refine AWp.block ?_
    refine AWp.seq ?_
    refine AWp.region ?_
    refine AList.c 14 rfl rfl rfl (OpJ.indexG (g := nt l) nt_get rfl rfl rfl sl22 el22 rfl (fun _ => rfl) (by decide) hk0) ?_
    refine AList.c 15 rfl rfl rfl (OpJ.load (v := .p (.int .i64 (nt l i))) rfl rfl ty3 rfl) ?_
    refine AList.c 7 rfl rfl rfl (OpJ.assign rfl rfl) ?_
    refine AList.nil ?_
    refine AWp.region ?_
    refine AList.c 16 rfl rfl rfl (OpJ.move rfl rfl) ?_
    refine AList.c 17 rfl rfl rfl (OpJ.move rfl rfl) ?_
    refine AList.c 18 rfl rfl rfl (OpJ.min2 rfl rfl rfl) ?_
    refine AList.c 19 rfl rfl rfl (OpJ.move rfl rfl) ?_
    refine AList.c 20 rfl rfl rfl (OpJ.move rfl rfl) ?_
    refine AList.c 21 rfl rfl rfl (OpJ.max2 rfl rfl rfl) ?_
    refine AList.c 4 rfl rfl rfl (OpJ.assign rfl rfl) ?_
    refine AList.c 5 rfl rfl rfl (OpJ.assign rfl rfl) ?_
    refine AList.nil ?_
    refine AWp.region ?_
    refine AList.c 22 rfl rfl rfl (OpJ.add rfl rfl rfl (i64ok ?_)) ?_
    · omega
    refine AList.c 12 rfl rfl rfl (OpJ.move rfl rfl) ?_
    refine AList.nil ?_
    refine ⟨i + 1, ?_, ?_, ?_⟩
    · omega
    · omega
    refine To.done [] rfl (Sub.cons rfl (Sub.cons (by rw [minK_S hk0]; rfl) (Sub.cons (by rw [maxK_S hk0]; rfl) (by repeat (first | exact Sub.nil | refine Sub.cons rfl ?_))))) rfl
  · skip
    obtain rfl : i = l.length := by have h := of_decide_eq_false hc0; omega
    refine AWp.exit ?_
    refine AWp.seq ?_
    refine AWp.region ?_
    refine AList.c 23 rfl rfl rfl (OpJ.move rfl rfl) ?_
    refine AList.c 24 rfl rfl rfl (OpJ.move rfl rfl) ?_
    refine AList.c 4 rfl rfl rfl (OpJ.assign rfl rfl) ?_
    refine AList.c 5 rfl rfl rfl (OpJ.assign rfl rfl) ?_
    refine AList.nil ?_
    refine AWp.ret ?_
    refine Fin.manyE (xs := [.int .i64 (minK n l l.length), .int .i64 (maxK n l l.length)]) rfl (⟨_, _, rfl, rfl, ⟨_, _, rfl, rfl, rfl⟩⟩) rfl rfl
theorem xsets_seq (n : Nat) (m : Int) (hn : n ≤ 8) : ASeq Tryd.prog 77 (fun y => [y, .p (.ip [.int .i64 (n : Int)] 0), .p (.ip [.int .i64 m] 0)]) (setX (setsL n m)) := by
  intro l κ nn inv fin hκ hnn hfin hb h0 hi0
  have hp := Nat.pow_le_pow_right (show 0 < 2 by omega) hn
  refine ACallsK.of_body (N := 21) Tryd.func77 rfl rfl (Nat.le_of_ble_eq_true rfl) ?_
  refine AWp.seq ?_
  refine AWp.region ?_
  refine AList.c 5 rfl rfl rfl (OpJ.load rfl rfl ty3 rfl) ?_
  refine AList.c 6 rfl rfl rfl (OpJ.shlN 1 n rfl rfl rfl (by show _ ≤ (64 : Nat); omega) (by show _ ≤ (9223372036854775807 : Int); rw [Nat.one_mul]; omega)) ?_
  refine AList.c 7 rfl rfl rfl (OpJ.move rfl rfl) ?_
  refine AList.nil ?_
  refine AWp.block ?_
  refine AWp.loopH [4, 7, 8, 9, 10, 11, 12, 13, 14, 15, 16, 17, 18, 19, 20] (fun g => [(7, .p (.int .i64 ((g.1 : Nat) : Int)))]) (fun g => g.2) (fun g => g.1 ≤ 2 ^ n ∧ inv (setF m g.1).length g.2) (fun g => 2 ^ n - g.1) (0, h0) (show (0 : Nat) ≤ 2 ^ n ∧ inv (setF m 0).length h0 from ⟨Nat.zero_le _, hi0⟩) (To.sub (Sub.chd (Sub.cons rfl (Sub.nil)))) (fun g hg => ?_)
  obtain ⟨p, hcur⟩ := g
  obtain ⟨hle, hinv⟩ := hg
  dsimp only at hle hinv ⊢
  refine AWp.seq ?_
  refine AWp.region ?_
  refine AList.c 8 rfl rfl rfl (OpJ.lss rfl rfl rfl) ?_
  refine AList.nil ?_
  refine AWp.seq ?_
  refine AWp.cond _ rfl (fun hc0 => ?_) (fun hc0 => ?_)
  · skip
    have hp0 : p < 2 ^ n := by have h := of_decide_eq_true hc0; rw [Nat.one_mul] at h; omega
    refine AWp.skip ?_
    refine AWp.seq ?_
    refine AWp.block ?_
    refine AWp.seq ?_
    refine AWp.region ?_
    refine AList.c 9 rfl rfl rfl (OpJ.move rfl rfl) ?_
    refine AList.c 4 rfl rfl rfl (OpJ.assign rfl rfl) ?_
    refine AList.nil ?_
    refine AWp.seq ?_
    refine AWp.regionDraw 7 mixed (by kernel_rfl) (by decide) ?_
    refine AQuiet.cons 10 rfl rfl rfl (OpJ.move rfl rfl) ?_
    refine AQuiet.cons 11 rfl rfl rfl (OpJ.callP (xsize_ok p (by omega)) rfl rfl rfl rfl rf78) ?_
    refine AQuiet.cons 12 rfl rfl rfl (OpJ.load (v := .p (.int .i64 m)) rfl rfl ty3 rfl) ?_
    refine AQuiet.cons 13 rfl rfl rfl (OpJ.leq rfl rfl rfl) ?_
    refine AQuiet.cons 14 rfl rfl rfl (OpJ.move rfl rfl) ?_
    refine AQuiet.guard 15 14 rfl rfl rfl rfl rfl rfl rfl [(0, _)] (fun h => And.intro (.inl rfl) (trivial)) (fun h => (OpJ.move rfl rfl)) ?_
    refine AQuiet.guard 16 14 rfl rfl rfl rfl rfl rfl rfl [(4, _)] (fun h => And.intro (.inl rfl) (trivial)) (fun h => (OpJ.move rfl rfl)) ?_
    refine AQuiet.nil ?_
    refine AList.yieldG 17 14 rfl rfl rfl rfl rfl rfl rfl rfl [(15, _), (16, _)] (fun h => And.intro (.inr ⟨_, rfl, h⟩) (And.intro (.inr ⟨_, rfl, h⟩) trivial)) rfl rfl (fun h => by exact hb _ _ _ hinv (setX_at (by omega) (show setQ m p = true from eq_of_beq h))) ?_
    intro b2 h2 hq1 hq2
    refine AList.g 18 14 rfl rfl rfl rfl rfl rfl rfl [(17, _)] (fun h => And.intro (.inr ⟨_, rfl, h⟩) (trivial)) (fun h => (OpJ.not_ rfl rfl)) ?_
    refine AList.c 19 rfl rfl rfl (OpJ.and_ rfl rfl rfl ?_) ?_
    · first | (intro h; rw [h]; rfl) | (intro h; simp_all)
    refine AList.nil ?_
    refine AWp.cond _ rfl (fun hc1 => ?_) (fun hc1 => ?_)
    · skip
      have hend : inv (setX (setsL n m)).length h2 ∨ fin h2 := by
        cases e : setQ m p with
        | true =>
          have h4 := hq1 (by show (setQ m p == true) = true; rw [e]; rfl)
          have hb2 : b2 = false := by have h5 : (setQ m p && !b2) = true := hc1; rw [e] at h5; simpa using h5
          rw [if_neg (by rw [hb2]; decide)] at h4
          exact .inr h4
        | false =>
          exfalso
          have h5 : (setQ m p && !b2) = true := hc1
          rw [e] at h5
          cases h5
      refine AWp.ret ?_
      exact ⟨.inr rfl, _, resV.none_ rfl, hend⟩
    · skip
      have hN : inv (setF m (p + 1)).length h2 := by
        cases e : setQ m p with
        | true =>
          have h4 := hq1 (by show (setQ m p == true) = true; rw [e]; rfl)
          have hb2 : b2 = true := by have h5 : (setQ m p && !b2) = false := hc1; rw [e] at h5; simpa using h5
          rw [if_pos hb2] at h4
          rw [setF_T e, List.length_append]
          exact h4
        | false =>
          rw [hq2 (by show (setQ m p == true) = false; rw [e]; rfl), setF_F e]
          exact hinv
      refine AWp.skip ?_
      refine AWp.region ?_
      refine AList.c 20 rfl rfl rfl (OpJ.add rfl rfl rfl (i64ok ?_)) ?_
      · omega
      refine AList.c 7 rfl rfl rfl (OpJ.move rfl rfl) ?_
      refine AList.nil ?_
      refine ⟨(p + 1, h2), ?_, ?_, ?_⟩
      · exact ⟨by dsimp only; omega, hN⟩
      · show 2 ^ n - (p + 1) < 2 ^ n - p
        omega
      exact To.sub (Sub.cons rfl (by repeat (first | exact Sub.nil | refine Sub.cons rfl ?_)))
  · skip
    obtain rfl : p = 2 ^ n := by have h := of_decide_eq_false hc0; rw [Nat.one_mul] at h; omega
    refine AWp.exit ?_
    exact ⟨.inl rfl, _, resV.none_ rfl, .inl (by rw [setX_len]; exact hinv)⟩
theorem xsets_ok (n : Nat) (m : Int) : Pure Tryd.prog 69 [.int .i64 (n : Int), .int .i64 m] (.func (.func 77) [] [.ip [.int .i64 (n : Int)] 0, .ip [.int .i64 m] 0]) := by
  refine Pure.start (N := 6) Tryd.func69 rfl rfl (Nat.le_of_ble_eq_true rfl) ?_
  refine AWp.seq ?_
  refine AWp.region ?_
  refine AList.c 2 rfl rfl rfl (OpJ.boxImm rfl rfl rfl) ?_
  refine AList.c 3 rfl rfl rfl (OpJ.boxImm rfl rfl rfl) ?_
  refine AList.c 4 rfl rfl rfl (OpJ.assign rfl rfl) ?_
  refine AList.nil ?_
  refine AWp.seq ?_
  refine AWp.region ?_
  refine AList.c 5 rfl rfl rfl (OpJ.makeFunc rfl rfl rfl) ?_
  refine AList.c 4 rfl rfl rfl (OpJ.assign rfl rfl) ?_
  refine AList.nil ?_
  refine AWp.ret ?_
  exact Fin.one rfl (rfl)
theorem truths_ok (c : Crt) (l : List Lk) : Pure Tryd.prog 42 [crV c, (.is (l.flatMap lookC) l.length)] (.func (.func 68) [] [.ip (crC c) 0, .ip [(.is (l.flatMap lookC) l.length)] 0]) := by
  refine Pure.start (N := 6) Tryd.func42 rfl rfl (Nat.le_of_ble_eq_true rfl) ?_
  refine AWp.seq ?_
  refine AWp.region ?_
  refine AList.c 2 rfl rfl rfl (OpJ.boxImm rfl rfl rfl) ?_
  refine AList.c 3 rfl rfl rfl (OpJ.boxImm rfl rfl rfl) ?_
  refine AList.c 4 rfl rfl rfl (OpJ.assign rfl rfl) ?_
  refine AList.nil ?_
  refine AWp.seq ?_
  refine AWp.region ?_
  refine AList.c 5 rfl rfl rfl (OpJ.makeFunc rfl rfl rfl) ?_
  refine AList.c 4 rfl rfl rfl (OpJ.assign rfl rfl) ?_
  refine AList.nil ?_
  refine AWp.ret ?_
  exact Fin.one rfl (rfl)
end Go.Proofs.YtofenmailjdehaaDoor
