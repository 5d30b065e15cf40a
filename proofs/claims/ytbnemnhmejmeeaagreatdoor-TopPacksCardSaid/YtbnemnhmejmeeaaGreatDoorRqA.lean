/-
  Small functions; sets by bits; what is valid.
  Ways, and all that they lead to.
  All that a way leads to.
  Ways from a batch; which batches can be to blame.
-/
import Derived.Test.YtbnemnhmejmeeaaGreatDoorRqF
import Derived.Test.YtbnemnhmejmeeaaGreatDoorRqP
import Derived.Test.YtbnemnhmejmeeaaGreatDoorFaD
section
set_option linter.unusedVariables false
set_option maxRecDepth 100000
set_option maxHeartbeats 4000000
set_option linter.unusedSimpArgs false
namespace Go.Proofs.YtbnemnhmejmeeaaGreatDoor.Rx
open Go.AF
theorem glb0 : (3, tabL.map (PV.int .u8)) ∈ laidG Tryz.prog := by
  have e : (laidG Tryz.prog)[0]? = some (3, tabL.map (PV.int .u8)) := by kernel_rfl
  exact List.mem_of_getElem? e
theorem within_ok (n lo hi : Int) : Pure Tryz.prog 96 [.int .i64 n, .int .i64 lo, .int .i64 hi] (.bool (inB n lo hi)) := by
  refine Pure.start (N := 15) Tryz.func96 rfl rfl (Nat.le_of_ble_eq_true rfl) ?_
  refine AWp.seq ?_
  refine AWp.region ?_
  refine AList.c 6 rfl rfl rfl (OpJ.assign rfl rfl) ?_
  refine AList.nil ?_
  refine AWp.seq ?_
  refine AWp.region ?_
  refine AList.c 7 rfl rfl rfl (OpJ.move rfl rfl) ?_
  refine AList.c 8 rfl rfl rfl (OpJ.move rfl rfl) ?_
  refine AList.c 9 rfl rfl rfl (OpJ.leq rfl rfl rfl) ?_
  refine AList.c 10 rfl rfl rfl (OpJ.move rfl rfl) ?_
  refine AList.g 11 10 rfl rfl rfl rfl rfl rfl rfl [(0, _)] (fun h => And.intro (.inl rfl) (trivial)) (fun h => (OpJ.move rfl rfl)) ?_
  refine AList.g 12 10 rfl rfl rfl rfl rfl rfl rfl [(2, _)] (fun h => And.intro (.inl rfl) (trivial)) (fun h => (OpJ.move rfl rfl)) ?_
  refine AList.g 13 10 rfl rfl rfl rfl rfl rfl rfl [(11, _), (12, _)] (fun h => And.intro (.inr ⟨_, rfl, h⟩) (And.intro (.inr ⟨_, rfl, h⟩) (trivial))) (fun h => (OpJ.leq rfl rfl rfl)) ?_
  refine AList.c 14 rfl rfl rfl (OpJ.and_ rfl rfl rfl ?_) ?_
  · first | (intro h; rw [h]; rfl) | (intro h; simp_all)
  refine AList.c 6 rfl rfl rfl (OpJ.assign rfl rfl) ?_
  refine AList.nil ?_
  refine AWp.ret ?_
  exact Fin.one rfl (rfl)
theorem tz_ok (n k : Nat) (h0 : 0 < n) (h : n < 2 ^ 32) (hl : n &&& (2 ^ 32 - n) = 2 ^ k) (hk : k < 32) : Pure Tryz.prog 140 [.int .u32 (n : Int)] (.int .i64 ((k : Nat) : Int)) := by
  have hT : (tabL.map (PV.int .u8))[(((2 ^ k * 125613361 % 4294967296 / 2 ^ 27 : Nat) : Int)).toNat * 1]? = some (.int .u8 ((k : Nat) : Int)) := by rw [Nat.mul_one, Int.toNat_natCast, List.getElem?_map, tab_at k hk]; rfl
  refine Pure.start (N := 14) Tryz.func140 rfl rfl (Nat.le_of_ble_eq_true rfl) ?_
  refine AWp.seq ?_
  refine AWp.region ?_
  refine AList.c 2 rfl rfl rfl (OpJ.assign rfl rfl) ?_
  refine AList.nil ?_
  refine AWp.seq ?_
  refine AWp.seq ?_
  refine AWp.region ?_
  refine AList.c 3 rfl rfl rfl (OpJ.move rfl rfl) ?_
  refine AList.c 4 rfl rfl rfl (OpJ.eql rfl rfl rfl) ?_
  refine AList.nil ?_
  refine AWp.cond _ rfl (fun hc0 => ?_) (fun hc0 => ?_)
  · skip
    exfalso
    simp at hc0
    omega
  · skip
    refine AWp.skip ?_
    refine AWp.seq ?_
    refine AWp.region ?_
    refine AList.c 5 rfl rfl rfl (OpJ.move rfl rfl) ?_
    refine AList.c 6 rfl rfl rfl (OpJ.move rfl rfl) ?_
    refine AList.c 7 rfl rfl rfl (OpJ.neg (m := ((2 ^ 32 - n : Nat) : Int)) rfl rfl ?_) ?_
    · exact u32neg h0 h
    refine AList.c 8 rfl rfl rfl (OpJ.andN n (2 ^ 32 - n) rfl rfl rfl (by first | (show _ ≤ (9223372036854775807 : Int); omega) | (show _ ≤ (4294967295 : Int); omega) | (show _ ≤ (18446744073709551615 : Int); omega) | (show _ ≤ (255 : Int); omega) | (show _ ≤ (65535 : Int); omega)) (by first | decide | (show _ ≤ (9223372036854775807 : Int); omega) | (show _ ≤ (4294967295 : Int); omega) | (show _ ≤ (18446744073709551615 : Int); omega) | (show _ ≤ (255 : Int); omega) | (show _ ≤ (65535 : Int); omega))) ?_
    rw [hl]
    refine AList.c 9 rfl rfl rfl (OpJ.mul (m := ((2 ^ k * 125613361 % 4294967296 : Nat) : Int)) rfl rfl rfl ?_) ?_
    · exact u32mul k
    refine AList.c 10 rfl rfl rfl (OpJ.shrN (2 ^ k * 125613361 % 4294967296) 27 rfl rfl rfl (by first | decide | (show _ ≤ (9223372036854775807 : Int); omega) | (show _ ≤ (4294967295 : Int); omega) | (show _ ≤ (18446744073709551615 : Int); omega) | (show _ ≤ (255 : Int); omega) | (show _ ≤ (65535 : Int); omega))) ?_
    refine AList.c 11 rfl rfl rfl (OpJ.indexGlob (tbl := tabL.map (PV.int .u8)) glb0 rfl rfl ar236 el236 (by omega) (by omega)) ?_
    refine AList.c 12 rfl rfl rfl (OpJ.load (v := .p (.int .u8 ((k : Nat) : Int))) rfl rfl ty5 (show aload _ _ _ _ = _ from congrArg (Option.map V.p) hT)) ?_
    refine AList.c 13 rfl rfl rfl (OpJ.convInt rfl rfl (by rw [un5]; rfl) un3 (i64ok ?_)) ?_
    · omega
    refine AList.c 2 rfl rfl rfl (OpJ.assign rfl rfl) ?_
    refine AList.nil ?_
    refine AWp.ret ?_
    exact Fin.one rfl (rfl)
theorem all_seq (n : Nat) (hn : n < 2 ^ 32) : ASeq Tryz.prog 139 (fun y => [y, .p (.ip [.int .u32 (n : Int)] 0)]) (bitsX n) := by
  intro l κ nn inv fin hκ hnn hfin hb h0 hi0
  refine ACallsK.of_body (N := 16) Tryz.func139 rfl rfl (Nat.le_of_ble_eq_true rfl) ?_
  refine AWp.seq ?_
  refine AWp.region ?_
  refine AList.c 4 rfl rfl rfl (OpJ.load rfl rfl ty171 rfl) ?_
  refine AList.c 3 rfl rfl rfl (OpJ.assign rfl rfl) ?_
  refine AList.nil ?_
  refine AWp.block ?_
  refine AWp.loopH [3, 5, 6, 7, 8, 9, 10, 11, 12, 13, 14, 15] (fun g => [(3, .p (.int .u32 ((hiN n g.1 : Nat) : Int)))]) (fun g => g.2) (fun g => g.1 ≤ 32 ∧ inv (bitsN n g.1).length g.2) (fun g => 32 - g.1) (0, h0) (show (0 : Nat) ≤ 32 ∧ inv (bitsN n 0).length h0 from ⟨Nat.zero_le _, hi0⟩) (To.sub (Sub.chd (Sub.cons (by show some (V.p (.int .u32 ((n : Nat) : Int))) = _; rw [hi_zero]) Sub.nil))) (fun g hg => ?_)
  obtain ⟨p, hcur⟩ := g
  obtain ⟨hp, hinv⟩ := hg
  dsimp only at hp hinv ⊢
  have hle := hi_le n p
  refine AWp.seq ?_
  refine AWp.seq ?_
  refine AWp.region ?_
  refine AList.c 5 rfl rfl rfl (OpJ.move rfl rfl) ?_
  refine AList.c 6 rfl rfl rfl (OpJ.neq rfl rfl rfl) ?_
  refine AList.nil ?_
  refine AWp.cond _ rfl (fun hc0 => ?_) (fun hc0 => ?_)
  · skip
    have hne : hiN n p ≠ 0 := by intro h; rw [h] at hc0; simp at hc0
    obtain ⟨k, hpk, hk32, hlow, hclr, hadd⟩ := hi_next hn hp hne
    refine AWp.skip ?_
    refine AWp.seq ?_
    refine AWp.block ?_
    refine AWp.seq ?_
    refine AWp.region ?_
    refine AList.c 11 rfl rfl rfl (OpJ.move rfl rfl) ?_
    refine AList.c 12 rfl rfl rfl (OpJ.move rfl rfl) ?_
    refine AList.c 13 rfl rfl rfl (OpJ.callP (tz_ok (hiN n p) k (by omega) (by omega) hlow hk32) rfl rfl rfl rfl rf140) ?_
    refine AList.yield 14 rfl rfl rfl rfl rfl rfl (hb _ _ _ hinv (bitsX_at hk32 hadd)) ?_
    intro b2 h2 hq2
    refine AList.c 15 rfl rfl rfl (OpJ.not_ rfl rfl) ?_
    refine AList.nil ?_
    refine AWp.cond _ rfl (fun hc1 => ?_) (fun hc1 => ?_)
    · skip
      have hb2 : b2 = false := by simpa using hc1
      subst hb2
      refine AWp.ret ?_
      exact ⟨.inr rfl, _, resV.none_ rfl, .inr hq2⟩
    · skip
      have hb2 : b2 = true := by simpa using hc1
      subst hb2
      refine AWp.skip ?_
      refine AWp.region ?_
      refine AList.c 7 rfl rfl rfl (OpJ.move rfl rfl) ?_
      refine AList.c 8 rfl rfl rfl (OpJ.move rfl rfl) ?_
      refine AList.c 9 rfl rfl rfl (OpJ.sub_ (m := ((hiN n p - 1 : Nat) : Int)) rfl rfl rfl ((u32ok ?_).trans ?_)) ?_
      · omega
      · omega
      refine AList.c 10 rfl rfl rfl (OpJ.andN (hiN n p) (hiN n p - 1) rfl rfl rfl (by first | (show _ ≤ (9223372036854775807 : Int); omega) | (show _ ≤ (4294967295 : Int); omega) | (show _ ≤ (18446744073709551615 : Int); omega) | (show _ ≤ (255 : Int); omega) | (show _ ≤ (65535 : Int); omega)) (by first | decide | (show _ ≤ (9223372036854775807 : Int); omega) | (show _ ≤ (4294967295 : Int); omega) | (show _ ≤ (18446744073709551615 : Int); omega) | (show _ ≤ (255 : Int); omega) | (show _ ≤ (65535 : Int); omega))) ?_
      refine AList.c 3 rfl rfl rfl (OpJ.assign rfl rfl) ?_
      refine AList.nil ?_
      refine ⟨(k + 1, h2), ?_, ?_, ?_⟩
      · exact ⟨by dsimp only; omega, by dsimp only; rw [hadd, List.length_append]; exact hq2⟩
      · show 32 - (k + 1) < 32 - p
        omega
      exact To.sub (Sub.cons (by show some (V.p (.int .u32 _)) = _; rw [hclr]) (by repeat (first | exact Sub.nil | refine Sub.cons rfl ?_)))
  · skip
    have hz : hiN n p = 0 := by have h : ((hiN n p : Nat) : Int) = 0 := (by simpa using hc0); omega
    have hall := hi_done hp hz
    refine AWp.exit ?_
    exact ⟨.inl rfl, _, resV.none_ rfl, .inl (by rw [bitsX_len, hall]; exact hinv)⟩
theorem all_ok (n : Nat) : Pure Tryz.prog 123 [.int .u32 (n : Int)] (.func (.func 139) [] [.ip [.int .u32 (n : Int)] 0]) := by
  refine Pure.start (N := 4) Tryz.func123 rfl rfl (Nat.le_of_ble_eq_true rfl) ?_
  refine AWp.seq ?_
  refine AWp.region ?_
  refine AList.c 1 rfl rfl rfl (OpJ.boxImm rfl rfl rfl) ?_
  refine AList.c 2 rfl rfl rfl (OpJ.assign rfl rfl) ?_
  refine AList.nil ?_
  refine AWp.seq ?_
  refine AWp.region ?_
  refine AList.c 3 rfl rfl rfl (OpJ.makeFunc rfl rfl rfl) ?_
  refine AList.c 2 rfl rfl rfl (OpJ.assign rfl rfl) ?_
  refine AList.nil ?_
  refine AWp.ret ?_
  exact Fin.one rfl (rfl)
theorem join_ok (l : List Nat) (hl : ∀ x ∈ l, x < 2 ^ 32) (hb : l.length ≤ bigN) : Pure Tryz.prog 122 [.is (l.flatMap u1) l.length] (.int .u32 ((orL l : Nat) : Int)) := by
  unfold bigN at hb
  refine Pure.start (N := 16) Tryz.func122 rfl rfl (Nat.le_of_ble_eq_true rfl) ?_
  refine AWp.seq ?_
  refine AWp.region ?_
  refine AList.c 2 rfl rfl rfl (OpJ.assign rfl rfl) ?_
  refine AList.nil ?_
  refine AWp.seq ?_
  refine AWp.seq ?_
  refine AWp.region ?_
  refine AList.c 5 rfl rfl rfl (OpJ.move rfl rfl) ?_
  refine AList.c 6 rfl rfl rfl (OpJ.lenSlice rfl rfl sl224 rfl) ?_
  refine AList.c 7 rfl rfl rfl (OpJ.move rfl rfl) ?_
  refine AList.nil ?_
  refine AWp.block ?_
  refine AWp.loopKL [5, 6, 15] (fun g => [(7, .p (.int .i64 ((g : Nat) : Int))), (2, .p (.int .u32 ((orL (l.take g) : Nat) : Int)))]) (fun g => g ≤ l.length) (fun g => l.length - g) 0 (Nat.zero_le _) (Sub.cons rfl (Sub.cons rfl (Sub.nil))) (fun i hg => ?_)
  refine AWp.seq ?_
  refine AWp.region ?_
  refine AList.c 8 rfl rfl rfl (OpJ.lss rfl rfl rfl) ?_
  refine AList.nil ?_
  refine AWp.seq ?_
  refine AWp.cond _ rfl (fun hc0 => ?_) (fun hc0 => ?_)
  · skip
    have hk0 : i < l.length := by have h := of_decide_eq_true hc0; omega
    have hx := hl _ (ut_mem hk0)
    have ho := orL_lt (l := l.take i) fun x hx => hl x (List.mem_of_mem_take hx)
    have ho2 := orL_lt (l := l.take (i + 1)) fun x hx => hl x (List.mem_of_mem_take hx)
    have hT := orL_take hk0
    rw [ut_get i hk0] at hT
    rw [hT] at ho2
    refine AWp.skip ?_
    refine AWp.seq ?_
    refine AWp.block ?_
    refine AWp.seq ?_
    refine AWp.region ?_
    refine AList.c 9 rfl rfl rfl (OpJ.indexG (g := ut l) ut_get rfl rfl rfl sl224 el224 rfl (fun _ => rfl) (by decide) hk0) ?_
    refine AList.c 10 rfl rfl rfl (OpJ.load rfl rfl ty171 rfl) ?_
    refine AList.c 4 rfl rfl rfl (OpJ.assign rfl rfl) ?_
    refine AList.nil ?_
    refine AWp.region ?_
    refine AList.c 11 rfl rfl rfl (OpJ.move rfl rfl) ?_
    refine AList.c 12 rfl rfl rfl (OpJ.move rfl rfl) ?_
    refine AList.c 13 rfl rfl rfl (OpJ.orN (orL (l.take i)) (ut l i) rfl rfl rfl (by show _ ≤ (4294967295 : Int); omega) (by show _ ≤ (4294967295 : Int); omega) (by show _ ≤ (4294967295 : Int); omega)) ?_
    refine AList.c 2 rfl rfl rfl (OpJ.assign rfl rfl) ?_
    refine AList.nil ?_
    refine AWp.region ?_
    refine AList.c 14 rfl rfl rfl (OpJ.add rfl rfl rfl (i64ok ?_)) ?_
    · omega
    refine AList.c 7 rfl rfl rfl (OpJ.move rfl rfl) ?_
    refine AList.nil ?_
    refine ⟨i + 1, ?_, ?_, ?_⟩
    · omega
    · omega
    refine To.done [] rfl (Sub.cons rfl (Sub.cons (by rw [hT]; rfl) (by repeat (first | exact Sub.nil | refine Sub.cons rfl ?_)))) rfl
  · skip
    obtain rfl : i = l.length := by have h := of_decide_eq_false hc0; omega
    rw [List.take_length]
    refine AWp.exit ?_
    refine AWp.seq ?_
    refine AWp.region ?_
    refine AList.c 15 rfl rfl rfl (OpJ.move rfl rfl) ?_
    refine AList.c 2 rfl rfl rfl (OpJ.assign rfl rfl) ?_
    refine AList.nil ?_
    refine AWp.ret ?_
    exact Fin.one rfl (rfl)
theorem indexF_ok (xs : List Int) (f : PV) (p : Int → Bool) (hx : xs.length ≤ bigN) (hf : ∀ x ∈ xs, FPure Tryz.prog f [.int .i64 x] (.bool (p x))) : Pure Tryz.prog 130 [.is (xs.flatMap i1) xs.length, f] (.int .i64 (idxF p xs)) := by
  unfold bigN at hx
  refine Pure.start (N := 19) Tryz.func130 rfl rfl (Nat.le_of_ble_eq_true rfl) ?_
  refine AWp.seq ?_
  refine AWp.region ?_
  refine AList.c 4 rfl rfl rfl (OpJ.assign rfl rfl) ?_
  refine AList.nil ?_
  refine AWp.seq ?_
  refine AWp.seq ?_
  refine AWp.region ?_
  refine AList.c 6 rfl rfl rfl (OpJ.move rfl rfl) ?_
  refine AList.c 7 rfl rfl rfl (OpJ.lenSlice rfl rfl sl45 rfl) ?_
  refine AList.c 8 rfl rfl rfl (OpJ.move rfl rfl) ?_
  refine AList.nil ?_
  refine AWp.block ?_
  refine AWp.loopK [4, 5, 8, 9, 10, 11, 12, 13, 14, 15, 16, 17, 18] (fun g => [(8, .p (.int .i64 ((g : Nat) : Int)))]) (fun g => g ≤ xs.length ∧ ∀ j (hj : j < g) (h : g ≤ xs.length), p (xs[j]'(by omega)) = false) (fun g => xs.length - g) 0 ⟨Nat.zero_le _, fun j hj => absurd hj (by omega)⟩ (Sub.cons rfl (Sub.nil)) (fun i hg => ?_)
  obtain ⟨hg1, hg2⟩ := hg
  refine AWp.seq ?_
  refine AWp.region ?_
  refine AList.c 9 rfl rfl rfl (OpJ.lss rfl rfl rfl) ?_
  refine AList.nil ?_
  refine AWp.seq ?_
  refine AWp.cond _ rfl (fun hc0 => ?_) (fun hc0 => ?_)
  · skip
    refine AWp.skip ?_
    refine AWp.seq ?_
    refine AWp.block ?_
    refine AWp.seq ?_
    refine AWp.region ?_
    refine AList.c 10 rfl rfl rfl (OpJ.move rfl rfl) ?_
    refine AList.c 5 rfl rfl rfl (OpJ.assign rfl rfl) ?_
    refine AList.nil ?_
    refine AWp.seq ?_
    refine AWp.region ?_
    refine AList.c 11 rfl rfl rfl (OpJ.move rfl rfl) ?_
    refine AList.c 12 rfl rfl rfl (OpJ.move rfl rfl) ?_
    refine AList.c 13 rfl rfl rfl (OpJ.move rfl rfl) ?_
    refine AList.c 14 rfl rfl rfl (OpJ.indexEl rfl rfl rfl sl45 el45 rfl (fun _ => rfl) (by decide) ?_) ?_
    · simp at hc0; omega
    refine AList.c 15 rfl rfl rfl (OpJ.load rfl rfl ty3 rfl) ?_
    refine AList.c 16 rfl rfl rfl (OpJ.callF (hf _ (List.getElem_mem _)) rfl rfl rfl) ?_
    refine AList.nil ?_
    refine AWp.cond _ rfl (fun hc1 => ?_) (fun hc1 => ?_)
    · skip
      refine AWp.seq ?_
      refine AWp.region ?_
      refine AList.c 17 rfl rfl rfl (OpJ.move rfl rfl) ?_
      refine AList.c 4 rfl rfl rfl (OpJ.assign rfl rfl) ?_
      refine AList.nil ?_
      refine AWp.ret ?_
      refine Fin.oneE rfl rfl ?_
      rw [idxF_at p xs i (by simp at hc0; omega) (fun j hj => hg2 j hj hg1) hc1]
    · skip
      refine AWp.skip ?_
      refine AWp.region ?_
      refine AList.c 18 rfl rfl rfl (OpJ.add rfl rfl rfl (i64ok ?_)) ?_
      · simp at hc0; omega
      refine AList.c 8 rfl rfl rfl (OpJ.move rfl rfl) ?_
      refine AList.nil ?_
      refine ⟨i + 1, ?_, ?_, ?_⟩
      · refine ⟨by simp at hc0; omega, fun j hj h => ?_⟩
        rcases Nat.lt_succ_iff_lt_or_eq.1 hj with h1 | rfl
        · exact hg2 j h1 hg1
        · exact hc1
      · simp at hc0; omega
      exact To.done [] rfl (by repeat (first | exact Sub.nil | refine Sub.cons rfl ?_)) rfl
  · skip
    refine AWp.exit ?_
    refine AWp.seq ?_
    refine AWp.region ?_
    refine AList.c 4 rfl rfl rfl (OpJ.assign rfl rfl) ?_
    refine AList.nil ?_
    refine AWp.ret ?_
    refine Fin.oneE rfl rfl ?_
    rw [idxF_none p xs (fun j hj => hg2 j (by simp at hc0; omega) hg1)]
theorem containsF_ok (xs : List Int) (f : PV) (p : Int → Bool) (hx : xs.length ≤ bigN) (hf : ∀ x ∈ xs, FPure Tryz.prog f [.int .i64 x] (.bool (p x))) : Pure Tryz.prog 110 [.is (xs.flatMap i1) xs.length, f] (.bool (xs.any p)) := by
  refine Pure.start (N := 9) Tryz.func110 rfl rfl (Nat.le_of_ble_eq_true rfl) ?_
  refine AWp.seq ?_
  refine AWp.region ?_
  refine AList.c 4 rfl rfl rfl (OpJ.assign rfl rfl) ?_
  refine AList.nil ?_
  refine AWp.seq ?_
  refine AWp.region ?_
  refine AList.c 5 rfl rfl rfl (OpJ.move rfl rfl) ?_
  refine AList.c 6 rfl rfl rfl (OpJ.move rfl rfl) ?_
  refine AList.c 7 rfl rfl rfl (OpJ.callP (indexF_ok _ _ p ?_ ?_) rfl rfl rfl rfl rf130) ?_
  · exact hx
  · exact hf
  refine AList.c 8 rfl rfl rfl (OpJ.geq rfl rfl rfl) ?_
  refine AList.c 4 rfl rfl rfl (OpJ.assign rfl rfl) ?_
  refine AList.nil ?_
  refine AWp.ret ?_
  refine Fin.oneE rfl rfl ?_
  rw [idxF_any]
theorem check1_ok (n : Int) (l : List Bat) (hl : l.length ≤ 24) : Pure Tryz.prog 119 [.int .i64 n, .ip [batV l] 0] (.bool (!inB n 0 (pw l.length - 1))) := by
  have hp := pw24 hl
  have hp2 : ((2 ^ l.length : Nat) : Int) = pw l.length := rfl
  refine Pure.start (N := 11) Tryz.func119 rfl rfl (Nat.le_of_ble_eq_true rfl) ?_
  refine AWp.seq ?_
  refine AWp.region ?_
  refine AList.c 3 rfl rfl rfl (OpJ.assign rfl rfl) ?_
  refine AList.nil ?_
  refine AWp.seq ?_
  refine AWp.region ?_
  refine AList.c 4 rfl rfl rfl (OpJ.move rfl rfl) ?_
  refine AList.c 5 rfl rfl rfl (OpJ.load rfl rfl ty71 rfl) ?_
  refine AList.c 6 rfl rfl rfl (OpJ.lenSlice rfl rfl sl71 rfl) ?_
  refine AList.c 7 rfl rfl rfl (OpJ.shlN 1 l.length rfl rfl rfl (by show _ ≤ (64 : Nat); omega) (by show _ ≤ (9223372036854775807 : Int); rw [Nat.one_mul]; omega)) ?_
  rw [Nat.one_mul]
  refine AList.c 8 rfl rfl rfl (OpJ.sub_ (m := (pw l.length - 1)) rfl rfl rfl ((i64ok ?_).trans ?_)) ?_
  · omega
  · rfl
  refine AList.c 9 rfl rfl rfl (OpJ.callP (within_ok _ _ _) rfl rfl rfl rfl rf96) ?_
  refine AList.c 10 rfl rfl rfl (OpJ.not_ rfl rfl) ?_
  refine AList.c 3 rfl rfl rfl (OpJ.assign rfl rfl) ?_
  refine AList.nil ?_
  refine AWp.ret ?_
  exact Fin.one rfl (rfl)
theorem areCards_ok (l : List Bat) (hb : l.length ≤ bigN) : Pure Tryz.prog 120 [batV l] (.bool (decide (crdOk l))) := by
  unfold bigN at hb
  refine Pure.start (N := 30) Tryz.func120 rfl rfl (Nat.le_of_ble_eq_true rfl) ?_
  refine AWp.seq ?_
  refine AWp.region ?_
  refine AList.c 2 rfl rfl rfl (OpJ.assign rfl rfl) ?_
  refine AList.nil ?_
  refine AWp.seq ?_
  refine AWp.seq ?_
  refine AWp.region ?_
  refine AList.c 5 rfl rfl rfl (OpJ.move rfl rfl) ?_
  refine AList.c 6 rfl rfl rfl (OpJ.lenSlice rfl rfl sl71 rfl) ?_
  refine AList.c 7 rfl rfl rfl (OpJ.move rfl rfl) ?_
  refine AList.nil ?_
  refine AWp.block ?_
  refine AWp.loopHL [5, 6] (fun g => [(7, .p (.int .i64 ((g : Nat) : Int)))]) (fun g => []) (fun g => g ≤ l.length ∧ ∀ i, i < g → crdO l i) (fun g => l.length - g) 0 ⟨Nat.zero_le _, fun j hj => absurd hj (by omega)⟩ (To.sub (Sub.chk (Sub.cons rfl (Sub.nil)))) (fun j hg => ?_)
  obtain ⟨hg1, hg2⟩ := hg
  refine AWp.seq ?_
  refine AWp.region ?_
  refine AList.c 8 rfl rfl rfl (OpJ.lss rfl rfl rfl) ?_
  refine AList.nil ?_
  refine AWp.seq ?_
  refine AWp.cond _ rfl (fun hc0 => ?_) (fun hc0 => ?_)
  · skip
    have hk0 : j < l.length := by have h := of_decide_eq_true hc0; omega
    refine AWp.skip ?_
    refine AWp.seq ?_
    refine AWp.block ?_
    refine AWp.seq ?_
    refine AWp.region ?_
    refine AList.c 9 rfl rfl rfl (OpJ.move rfl rfl) ?_
    refine AList.c 10 rfl rfl rfl (OpJ.indexG (g := bt l) bt_get rfl rfl rfl sl71 el71 rfl (fun _ => rfl) (by decide) hk0) ?_
    refine AList.c 11 rfl rfl rfl (OpJ.load (v := .p (.agg (bt l j).cells)) rfl rfl ty70 rfl) ?_
    refine AList.c 4 rfl rfl rfl (OpJ.allocOwn rfl zr70 rfl) ?_
    refine AList.c 3 rfl rfl rfl (OpJ.assign rfl rfl) ?_
    refine AList.c0 rfl rfl (OpJ.store (H' := [.cells ((bt l j).cells.map .p) 70]) rfl rfl rfl rfl rfl ty70 rfl rfl) ?_
    refine AList.nil ?_
    refine AWp.seq ?_
    refine AWp.regionDraw 17 mixed (by kernel_rfl) (by decide) ?_
    refine AQuiet.cons 12 rfl rfl rfl (OpJ.move rfl rfl) ?_
    refine AQuiet.cons 13 rfl rfl rfl (OpJ.geq rfl rfl rfl) ?_
    refine AQuiet.cons 14 rfl rfl rfl (OpJ.move rfl rfl) ?_
    refine AQuiet.guard 15 14 rfl rfl rfl rfl rfl rfl rfl [(4, _)] (fun h => And.intro (.inl rfl) (trivial)) (fun h => (OpJ.fieldAddr rfl rfl fd70_0 rfl)) ?_
    refine AQuiet.guard 16 14 rfl rfl rfl rfl rfl rfl rfl [(15, _)] (fun h => And.intro (.inr ⟨_, rfl, h⟩) (trivial)) (fun h => (OpJ.load (v := .p (.int .i64 (bt l j).f)) rfl rfl ty3 rfl)) ?_
    refine AQuiet.guard 17 14 rfl rfl rfl rfl rfl rfl rfl [(3, _)] (fun h => And.intro (.inl rfl) (trivial)) (fun h => (OpJ.move rfl rfl)) ?_
    refine AQuiet.guard 18 14 rfl rfl rfl rfl rfl rfl rfl [(17, _)] (fun h => And.intro (.inr ⟨_, rfl, h⟩) (trivial)) (fun h => (OpJ.shlN 1 j rfl rfl rfl (by show _ ≤ (64 : Nat); have hj : j ≤ 24 := (by simp at h; omega); omega) (by show _ ≤ (9223372036854775807 : Int); rw [Nat.one_mul]; have hj : j ≤ 24 := (by simp at h; omega); have := pw24 hj; unfold pw at this; omega))) ?_
    refine AQuiet.guard 19 14 rfl rfl rfl rfl rfl rfl rfl [(18, _)] (fun h => And.intro (.inr ⟨_, rfl, h⟩) (trivial)) (fun h => (OpJ.sub_ (m := (pw j - 1)) rfl rfl rfl ((i64ok (by rw [Nat.one_mul]; have hj : j ≤ 24 := (by simp at h; omega); have := pw24 hj; unfold pw at this; omega)).trans (by rw [Nat.one_mul]; rfl)))) ?_
    refine AQuiet.guard 20 14 rfl rfl rfl rfl rfl rfl rfl [(16, _), (19, _)] (fun h => And.intro (.inr ⟨_, rfl, h⟩) (And.intro (.inr ⟨_, rfl, h⟩) (trivial))) (fun h => (OpJ.callP (within_ok _ _ _) rfl rfl rfl rfl rf96)) ?_
    refine AQuiet.guard 21 14 rfl rfl rfl rfl rfl rfl rfl [(20, _)] (fun h => And.intro (.inr ⟨_, rfl, h⟩) (trivial)) (fun h => (OpJ.not_ rfl rfl)) ?_
    refine AQuiet.cons 22 rfl rfl rfl (OpJ.or_ rfl rfl rfl ?_) ?_
    · first | (intro h; rw [h]; rfl) | (intro h; simp_all)
    refine AQuiet.cons 23 rfl rfl rfl (OpJ.move rfl rfl) ?_
    refine AQuiet.guard 24 23 rfl rfl rfl rfl rfl rfl rfl [(4, _)] (fun h => And.intro (.inl rfl) (trivial)) (fun h => (OpJ.fieldAddr rfl rfl fd70_1 rfl)) ?_
    refine AQuiet.guard 25 23 rfl rfl rfl rfl rfl rfl rfl [(24, _)] (fun h => And.intro (.inr ⟨_, rfl, h⟩) (trivial)) (fun h => (OpJ.load (v := .p (.int .i64 (bt l j).s)) rfl rfl ty3 rfl)) ?_
    refine AQuiet.guard 26 23 rfl rfl rfl rfl rfl rfl rfl [(25, _)] (fun h => And.intro (.inr ⟨_, rfl, h⟩) (trivial)) (fun h => (OpJ.callP (within_ok _ _ _) rfl rfl rfl rfl rf96)) ?_
    refine AQuiet.guard 27 23 rfl rfl rfl rfl rfl rfl rfl [(26, _)] (fun h => And.intro (.inr ⟨_, rfl, h⟩) (trivial)) (fun h => (OpJ.not_ rfl rfl)) ?_
    refine AQuiet.cons 28 rfl rfl rfl (OpJ.or_ rfl rfl rfl ?_) ?_
    · first | (intro h; rw [h]; rfl) | (intro h; simp_all)
    refine AQuiet.nil ?_
    refine AList.nil ?_
    refine AWp.cond _ rfl (fun hc1 => ?_) (fun hc1 => ?_)
    · skip
      refine AWp.seq ?_
      refine AWp.region ?_
      refine AList.c 2 rfl rfl rfl (OpJ.assign rfl rfl) ?_
      refine AList.nil ?_
      refine AWp.ret ?_
      refine Fin.oneE rfl rfl ?_
      have h3 : ((decide ((j : Int) ≥ 24) || !inB (bt l j).f 0 (pw j - 1)) || !inB (bt l j).s 0 1048576) = true := hc1
      rw [decide_eq_false (p := crdOk l) (fun h => by have h1 := h j hk0; unfold crdO at h1; simp [inB] at h3; omega)]
    · skip
      have hst : crdO l j := by
        have h3 : ((decide ((j : Int) ≥ 24) || !inB (bt l j).f 0 (pw j - 1)) || !inB (bt l j).s 0 1048576) = false := hc1
        simp [inB] at h3
        unfold crdO
        omega
      refine AWp.skip ?_
      refine AWp.region ?_
      refine AList.c 29 rfl rfl rfl (OpJ.add rfl rfl rfl (i64ok ?_)) ?_
      · omega
      refine AList.c 7 rfl rfl rfl (OpJ.move rfl rfl) ?_
      refine AList.nil ?_
      refine ⟨j + 1, ?_, ?_, ?_⟩
      · refine ⟨by omega, fun i hi => ?_⟩
        rcases Nat.lt_succ_iff_lt_or_eq.1 hi with h1 | rfl
        · exact hg2 i h1
        · exact hst
      · omega
      exact To.done [] rfl (by repeat (first | exact Sub.nil | refine Sub.cons rfl ?_)) rfl
  · skip
    obtain rfl : j = l.length := by have h := of_decide_eq_false hc0; omega
    refine AWp.exit ?_
    refine AWp.seq ?_
    refine AWp.region ?_
    refine AList.c 2 rfl rfl rfl (OpJ.assign rfl rfl) ?_
    refine AList.nil ?_
    refine AWp.ret ?_
    refine Fin.oneE rfl rfl ?_
    rw [decide_eq_true (p := crdOk l) hg2]
theorem check_ok (l : List Bat) (sets : List Int) (hb : l.length ≤ bigN) (hs : sets.length ≤ bigN) : Pure Tryz.prog 95 [batV l, intsV sets] (.int .i64 (chkE l sets)) := by
  refine Pure.start (N := 15) Tryz.func95 rfl rfl (Nat.le_of_ble_eq_true rfl) ?_
  refine AWp.seq ?_
  refine AWp.region ?_
  refine AList.c 2 rfl rfl rfl (OpJ.boxImm rfl rfl rfl) ?_
  refine AList.c 4 rfl rfl rfl (OpJ.assign rfl rfl) ?_
  refine AList.nil ?_
  refine AWp.seq ?_
  refine AWp.region ?_
  refine AList.c 6 rfl rfl rfl (OpJ.makeFunc rfl rfl rfl) ?_
  refine AList.c 5 rfl rfl rfl (OpJ.assign rfl rfl) ?_
  refine AList.nil ?_
  refine AWp.seq ?_
  refine AWp.block ?_
  refine AWp.seq ?_
  refine AWp.region ?_
  refine AList.c 8 rfl rfl rfl (OpJ.load rfl rfl ty71 rfl) ?_
  refine AList.c 9 rfl rfl rfl (OpJ.callP (areCards_ok _ ?_) rfl rfl rfl rfl rf120) ?_
  · assumption
  refine AList.c 10 rfl rfl rfl (OpJ.not_ rfl rfl) ?_
  refine AList.c 7 rfl rfl rfl (OpJ.assign rfl rfl) ?_
  refine AList.nil ?_
  refine AWp.cond _ rfl (fun hc0 => ?_) (fun hc0 => ?_)
  · skip
    have hC : ¬ crdOk l := by simpa using hc0
    refine AWp.seq ?_
    refine AWp.region ?_
    refine AList.c 4 rfl rfl rfl (OpJ.assign rfl rfl) ?_
    refine AList.nil ?_
    refine AWp.ret ?_
    refine Fin.oneE rfl rfl ?_
    unfold chkE; rw [if_neg hC]
  · skip
    have hC : crdOk l := by simpa using hc0
    have h24 := crd24 hC
    refine AWp.seq ?_
    refine AWp.region ?_
    refine AList.c 12 rfl rfl rfl (OpJ.move rfl rfl) ?_
    refine AList.c 13 rfl rfl rfl (OpJ.move rfl rfl) ?_
    refine AList.c 14 rfl rfl rfl (OpJ.callP (containsF_ok sets _ (fun n => !inB n 0 (pw l.length - 1)) hs (fun x _ => ⟨119, [.int .i64 x, .ip [batV l] 0], rfl, rf119, check1_ok x l h24⟩)) rfl rfl rfl rfl rf110) ?_
    refine AList.c 11 rfl rfl rfl (OpJ.assign rfl rfl) ?_
    refine AList.nil ?_
    refine AWp.cond _ rfl (fun hc1 => ?_) (fun hc1 => ?_)
    · skip
      have hS : (sets.any fun n => !inB n 0 (pw l.length - 1)) = true := hc1
      refine AWp.seq ?_
      refine AWp.region ?_
      refine AList.c 4 rfl rfl rfl (OpJ.assign rfl rfl) ?_
      refine AList.nil ?_
      refine AWp.ret ?_
      refine Fin.oneE rfl rfl ?_
      unfold chkE; rw [if_pos hC, if_pos hS]
    · skip
      have hS : (sets.any fun n => !inB n 0 (pw l.length - 1)) = false := hc1
      refine AWp.skip ?_
      refine AWp.seq ?_
      refine AWp.region ?_
      refine AList.c 4 rfl rfl rfl (OpJ.assign rfl rfl) ?_
      refine AList.nil ?_
      refine AWp.ret ?_
      refine Fin.oneE rfl rfl ?_
      unfold chkE; rw [if_pos hC, if_neg (by rw [hS]; decide)]
end Go.Proofs.YtbnemnhmejmeeaaGreatDoor.Rx
end

section
set_option linter.unusedVariables false
set_option maxRecDepth 100000
set_option maxHeartbeats 4000000
set_option linter.unusedSimpArgs false
namespace Go.Proofs.YtbnemnhmejmeeaaGreatDoor.Rx
open Go.AF
theorem bnext_ok (l : List Bat) (b : Nat) (hC : crdOk l) (hb : b < l.length) : Pure Tryz.prog 170 [batV l, .int .i64 (b : Int)] (.int .u32 ((frN l b : Nat) : Int)) := by
  have hf := (hC b hb).2.1
  have hp := pw24 (n := b) (by have := crd24 hC; omega)
  have hfr : (bt l b).f = ((frN l b : Nat) : Int) := by unfold frN; omega
  refine Pure.start (N := 11) Tryz.func170 rfl rfl (Nat.le_of_ble_eq_true rfl) ?_
  refine AWp.seq ?_
  refine AWp.region ?_
  refine AList.c 4 rfl rfl rfl (OpJ.assign rfl rfl) ?_
  refine AList.nil ?_
  refine AWp.seq ?_
  refine AWp.region ?_
  refine AList.c 5 rfl rfl rfl (OpJ.move rfl rfl) ?_
  refine AList.c 6 rfl rfl rfl (OpJ.move rfl rfl) ?_
  refine AList.c 7 rfl rfl rfl (OpJ.indexG (g := bt l) bt_get rfl rfl rfl sl131 el131 rfl (fun _ => rfl) (by decide) hb) ?_
  refine AList.c 8 rfl rfl rfl (OpJ.fieldAddr rfl rfl fd70_0 rfl) ?_
  refine AList.c 9 rfl rfl rfl (OpJ.load (v := .p (.int .i64 (bt l b).f)) rfl rfl ty3 rfl) ?_
  refine AList.c 10 rfl rfl rfl (OpJ.convInt rfl rfl (by rw [un3]; rfl) un171 (u32ok ?_)) ?_
  · omega
  refine AList.c 4 rfl rfl rfl (OpJ.assign rfl rfl) ?_
  refine AList.nil ?_
  refine AWp.ret ?_
  refine Fin.oneE rfl rfl ?_
  rw [hfr]
end Go.Proofs.YtbnemnhmejmeeaaGreatDoor.Rx
end

section
set_option linter.unusedVariables false
set_option maxRecDepth 100000
set_option maxHeartbeats 4000000
set_option linter.unusedSimpArgs false
namespace Go.Proofs.YtbnemnhmejmeeaaGreatDoor.Rx
open Go.AF
def capW (W : PV) : List V := [.ptr 1 0, .ptr 0 0, .p (.ip [W] 0), .ptr 2 0]
def rcH (W : PV) (M : Nat) : List Blk := [.cells [.p (.int .u32 (M : Int))] 171, .cells (((metB M).flatMap b1).map .p) 203, .cells [.func (.func 121) [] (capW W)] 204]
def NxOk (N : Nat) (nx : Nat → Nat) (W : PV) : Prop := ∀ b, b < N → FIface Tryz.prog "pencilworks/recall.next" W [.int .i64 ((b : Nat) : Int)] (.int .u32 ((nx b : Nat) : Int))
def OnOk (R : Nat → Nat) (W : PV) (b : Nat) : Prop := ∀ M, M < 2 ^ 24 → MetOk R b M → ACalls Tryz.prog 121 (.p (.int .i64 ((b : Nat) : Int)) :: capW W) (rcH W M) fun v H' => H' = rcH W (M ||| R b)
theorem metF_lt {N : Nat} {nx R rk : Nat → Nat} (w : Way N nx R rk) (hN : N ≤ 24) {b M : Nat} (hb : b < N) (hM : M < 2 ^ 24) {ks : List Nat} (hk : ∀ k ∈ ks, k < N) : metF R M b ks < 2 ^ 24 := by
  apply Nat.lt_pow_two_of_testBit
  intro x hx
  cases h : (metF R M b ks).testBit x with
  | false => rfl
  | true =>
    exfalso
    rcases (metF_bit R M b x ks).1 h with h1 | h1 | ⟨k, h1, h2⟩
    · rw [Nat.testBit_lt_two_pow (Nat.lt_of_lt_of_le hM (Nat.pow_le_pow_right (by omega) hx))] at h1
      cases h1
    · omega
    · rw [Nat.testBit_lt_two_pow (Nat.lt_of_lt_of_le (w.rlt k (hk k h1)) (Nat.pow_le_pow_right (by omega) (by omega)))] at h2
      cases h2
theorem on_step {N : Nat} {nx R rk : Nat → Nat} (w : Way N nx R rk) (hN : N ≤ 24) (W : PV) (hnx : NxOk N nx W) (b : Nat) (hb : b < N) (IH : ∀ k, (nx b).testBit k = true → OnOk R W k) : OnOk R W b := by
  intro M hM hMet
  refine ACalls.start (N := 25) Tryz.func121 rfl rfl (Nat.le_of_ble_eq_true rfl) ?_
  have hnl : nx b < 2 ^ 32 := Nat.lt_of_lt_of_le (w.lt b hb) (Nat.pow_le_pow_right (by omega) (by omega))
  have hb24 : b < 24 := by omega
  have h2b := Nat.pow_le_pow_right (show 0 < 2 by omega) (show b ≤ 23 by omega)
  refine AWp.seq ?_
  refine AWp.seq ?_
  refine AWp.region ?_
  refine AList.c 7 rfl rfl rfl (OpJ.move rfl rfl) ?_
  refine AList.c 8 rfl rfl rfl (OpJ.indexArrI rfl rfl rfl ar203 el203 (by omega)) ?_
  refine AList.c 9 rfl rfl rfl (OpJ.loadFlat (f := b1) (c := 1) (k := b) (j := 0) (xs := (metB M)) rfl rfl ty4 rfl rfl (by omega) (fun _ => rfl) (by rw [metB_len]; omega) (by decide) (show _ = PV.bool (M.testBit b) from by rw [metB_get]; rfl)) ?_
  refine AList.nil ?_
  refine AWp.cond _ rfl (fun hc0 => ?_) (fun hc0 => ?_)
  · skip
    have hm : M.testBit b = true := hc0
    refine AWp.ret ?_
    exact ⟨.inr rfl, _, resV.none_ rfl, by rw [met_old w hb hMet hm]⟩
  · skip
    refine AWp.skip ?_
    refine AWp.seq ?_
    refine AWp.region ?_
    refine AList.c 10 rfl rfl rfl (OpJ.move rfl rfl) ?_
    refine AList.c 11 rfl rfl rfl (OpJ.indexArrI rfl rfl rfl ar203 el203 (by omega)) ?_
    refine AList.c0 rfl rfl (OpJ.storeCells (f := b1) (c := 1) (k := b) (j := 0) (xs := (metB M)) (z := true) (ws := [.bool true]) rfl rfl rfl rfl rfl ty4 rfl rfl rfl (by omega) (fun _ => rfl) (by rw [metB_len]; omega) (by decide) rfl) ?_
    refine AList.nil ?_
    refine AWp.seq ?_
    rw [metB_set hb24]
    refine AWp.regionDraw 5 mixed (by kernel_rfl) (by decide) ?_
    refine AQuiet.cons 12 rfl rfl rfl (OpJ.load (v := .p (.int .u32 (M : Int))) rfl rfl ty171 rfl) ?_
    refine AQuiet.cons 13 rfl rfl rfl (OpJ.move rfl rfl) ?_
    refine AQuiet.cons 14 rfl rfl rfl (OpJ.shlN 1 b rfl rfl rfl (by show _ ≤ (32 : Nat); omega) (by show _ ≤ (4294967295 : Int); rw [Nat.one_mul]; omega)) ?_
    refine AQuiet.cons 15 rfl rfl rfl (OpJ.buildImm rfl slz224 (by decide) rfl rfl rfl) ?_
    refine AQuiet.cons 16 rfl rfl rfl (OpJ.callP (join_ok [M, 1 * 2 ^ b] (by intro x hx; simp at hx; rcases hx with rfl | rfl; { omega }; { omega }) (by unfold bigN; show 2 ≤ _; omega)) rfl rfl rfl rfl rf122) ?_
    rw [or2, Nat.one_mul]
    refine AQuiet.nil ?_
    refine AList.c0 rfl rfl (OpJ.store (H' := rcH W (M ||| 2 ^ b)) rfl rfl rfl rfl rfl ty171 rfl rfl) ?_
    refine AList.nil ?_
    refine AWp.seq ?_
    refine AWp.region ?_
    refine AList.c 17 rfl rfl rfl (OpJ.load (v := .p W) rfl rfl ty130 rfl) ?_
    refine AList.c 18 rfl rfl rfl (OpJ.move rfl rfl) ?_
    refine AList.c 19 rfl rfl rfl (OpJ.invoke (hnx b hb) rfl rfl rfl) ?_
    refine AList.c 20 rfl rfl rfl (OpJ.callP (all_ok (nx b)) rfl rfl rfl rfl rf123) ?_
    refine AList.nil ?_
    refine AWp.toEnd ?_
    refine AWp.block ?_
    refine AWp.rangeFunc 3 rfl (fun _ => rfl) rf139 (all_seq (nx b) hnl) (Nat.le_refl 3) (Nat.le_refl 3) (fun _ h => by cases h) (fun x hx => by unfold bitsX at hx; simp at hx; obtain ⟨j, _, rfl⟩ := hx; rfl) rfl (fun k h => h = rcH W (metF R M b ((bitsN (nx b) 32).take k))) (fun c h => False) (fun _ _ h => by rw [h]; rfl) (fun _ _ h => h.elim) rfl ?_ ?_ ?_
    · skip
      intro lx tmps k h x hJ hx
      subst hJ
      obtain ⟨q, hq, rfl⟩ := bitsX_get hx
      have hqm := bits_mem.1 (List.mem_of_getElem? hq)
      have hks : ∀ p ∈ (bitsN (nx b) 32).take k, (nx b).testBit p = true := fun p hp => (bits_mem.1 (List.mem_of_mem_take hp)).2
      have hIH := IH q hqm.2 (metF R M b ((bitsN (nx b) 32).take k)) (metF_lt w hN hb hM fun p hp => w.nlt b hb p (hks p hp)) (met_next w hb hMet hks hqm.2)
      refine AWp.region ?_
      refine AList.c 6 rfl rfl rfl (OpJ.assign rfl rfl) ?_
      refine AList.nil ?_
      refine ⟨rfl, rfl, ?_⟩
      refine AWp.block ?_
      refine AWp.region ?_
      refine AList.c 22 rfl rfl rfl (OpJ.load (v := .func (.func 121) [] (capW W)) rfl rfl ty204 rfl) ?_
      refine AList.c 23 rfl rfl rfl (OpJ.move rfl rfl) ?_
      refine AList.callXK 24 [0, 1, 2] (all := .p (.int .i64 ((q : Nat) : Int)) :: capW W) (by show ACalls _ _ _ [Blk.cells _ _, Blk.cells (renL _ (List.map V.p _)) _, Blk.cells _ _] _; rw [renL_pure]; exact hIH) (fun v H2 h => by rw [h]; rfl) (by rfl) (by rfl) rfl rfl rfl rfl rfl rfl rfl rf121 (fun v H2 hQ2 => ?_)
      subst hQ2
      refine AList.nil ?_
      exact ⟨_, rfl, by rw [take_snoc hq, metF_snoc]; exact To.sub Sub.nil⟩
    · skip
      intro h hJ
      subst hJ
      have hall : metF R M b (bitsN (nx b) 32) = M ||| R b := by
        rcases met_all w (M := M) hb with h | h
        · exact h
        · omega
      rw [bitsX_len, List.take_length, hall]
      exact ⟨[], _, To.done [0, 1, 2] rfl Sub.nil (by show [Blk.cells _ _, Blk.cells (renL _ (List.map V.p _)) _, Blk.cells _ _] = _; rw [renL_pure]; rfl), .inl rfl, _, resV.none_ rfl, rfl⟩
    · skip
      intro c h hx
      exact hx.elim
theorem on_all {N : Nat} {nx R rk : Nat → Nat} (w : Way N nx R rk) (hN : N ≤ 24) (W : PV) (hnx : NxOk N nx W) : ∀ (m b : Nat), b < N → rk b ≤ m → OnOk R W b
  | 0, b, hb, hm => on_step w hN W hnx b hb fun k hk => by have := w.rk b hb k hk; omega
  | m + 1, b, hb, hm => on_step w hN W hnx b hb fun k hk => on_all w hN W hnx m k (w.nlt b hb k hk) (by have := w.rk b hb k hk; omega)
theorem reach_ok {N : Nat} {nx R rk : Nat → Nat} (w : Way N nx R rk) (hN : N ≤ 24) (t : Nat) (y : PV) (hnx : NxOk N nx (.iface t y)) (b : Nat) (hb : b < N) : Pure Tryz.prog 97 [.iface t y, .int .i64 (b : Int)] (.int .u32 ((R b : Nat) : Int)) := by
  refine Pure.start (N := 12) Tryz.func97 rfl rfl (Nat.le_of_ble_eq_true rfl) ?_
  refine AWp.seq ?_
  refine AWp.region ?_
  refine AList.c 2 rfl rfl rfl (OpJ.boxImm rfl rfl rfl) ?_
  refine AList.c 4 rfl rfl rfl (OpJ.allocOwn rfl zr171 rfl) ?_
  refine AList.nil ?_
  refine AWp.seq ?_
  refine AWp.region ?_
  refine AList.c 5 rfl rfl rfl (OpJ.allocOwn rfl zr203 rfl) ?_
  refine AList.nil ?_
  refine AWp.seq ?_
  refine AWp.region ?_
  refine AList.c 6 rfl rfl rfl (OpJ.allocOwn rfl zr204 rfl) ?_
  refine AList.nil ?_
  refine AWp.seq ?_
  refine AWp.region ?_
  refine AList.c 7 rfl rfl rfl (OpJ.makeFunc rfl rfl rfl) ?_
  refine AList.c0 rfl rfl (OpJ.store (H' := rcH (.iface t y) 0) rfl rfl rfl rfl rfl ty204 rfl rfl) ?_
  refine AList.nil ?_
  refine AWp.seq ?_
  refine AWp.region ?_
  refine AList.c 8 rfl rfl rfl (OpJ.load (v := .func (.func 121) [] (capW (.iface t y))) rfl rfl ty204 rfl) ?_
  refine AList.c 9 rfl rfl rfl (OpJ.move rfl rfl) ?_
  refine AList.callX 10 (on_all w hN (.iface t y) hnx (rk b) b hb (Nat.le_refl _) 0 (by decide) (fun x hx => by simp at hx)) rfl rfl rfl rfl rfl rfl rfl rf121 (fun v H2 hQ2 => ?_)
  subst hQ2
  rw [Nat.zero_or]
  refine AList.nil ?_
  refine AWp.seq ?_
  refine AWp.region ?_
  refine AList.c 11 rfl rfl rfl (OpJ.load (v := .p (.int .u32 ((R b : Nat) : Int))) rfl rfl ty171 rfl) ?_
  refine AList.c0 rfl rfl (OpJ.store rfl rfl rfl rfl rfl ty171 rfl rfl) ?_
  refine AList.nil ?_
  refine AWp.ret ?_
  exact Fin.one rfl (⟨_, _, _, rfl, ty171, rfl⟩)
theorem nx_back (l : List Bat) (hC : crdOk l) : NxOk l.length (frN l) (.iface 131 (batV l)) := fun b hb => ⟨131, _, 170, rfl, by kernel_rfl, rf170, bnext_ok l b hC hb⟩
end Go.Proofs.YtbnemnhmejmeeaaGreatDoor.Rx
end

section
set_option linter.unusedVariables false
set_option maxRecDepth 100000
set_option maxHeartbeats 4000000
set_option linter.unusedSimpArgs false
namespace Go.Proofs.YtbnemnhmejmeeaaGreatDoor.Rx
open Go.AF
theorem Pure.nil2 {P : Program} {f : FuncId} {x r : PV} (h : Pure P f [x, .is [] 0] r) : Pure P f [x, .nilSlice] r := by
  intro w I ρ us hi hus
  refine h w I ρ us hi ?_
  obtain ⟨u, us', rfl, h1, u2, us2, rfl, h2, h3⟩ := hus
  exact ⟨u, _, rfl, h1, u2, us2, rfl, RelV.wk (.p .nilSlice) u2 h2, h3⟩
theorem check_nil (l : List Bat) (hb : l.length ≤ bigN) : Pure Tryz.prog 95 [batV l, .nilSlice] (.int .i64 (chkE l [])) := Pure.nil2 (check_ok l [] hb (Nat.zero_le _))
theorem from_ok (l : List Bat) (b : Int) (hb : l.length ≤ bigN) (f : PV) (t : Nat) (y : PV) (nx R rk : Nat → Nat) (hw : crdOk l → Way l.length nx R rk) (hnx : crdOk l → NxOk l.length nx (.iface t y)) (hf : crdOk l → FPure Tryz.prog f [] (.iface t y)) : Pure Tryz.prog 60 [batV l, f, .int .i64 b] (.tuple [.int .i64 ((fromN l R b : Nat) : Int), .int .i64 (fromE l b)]) := by
  have hb2 := hb
  unfold bigN at hb2
  refine Pure.start (N := 25) Tryz.func60 rfl rfl (Nat.le_of_ble_eq_true rfl) ?_
  refine AWp.seq ?_
  refine AWp.region ?_
  refine AList.c 6 rfl rfl rfl (OpJ.assign rfl rfl) ?_
  refine AList.c 7 rfl rfl rfl (OpJ.assign rfl rfl) ?_
  refine AList.nil ?_
  refine AWp.seq ?_
  refine AWp.seq ?_
  refine AWp.region ?_
  refine AList.c 9 rfl rfl rfl (OpJ.move rfl rfl) ?_
  refine AList.c 10 rfl rfl rfl (OpJ.callP (check_nil l hb) rfl rfl rfl rfl rf95) ?_
  refine AList.c 8 rfl rfl rfl (OpJ.assign rfl rfl) ?_
  refine AList.nil ?_
  refine AWp.seq ?_
  refine AWp.region ?_
  refine AList.c 11 rfl rfl rfl (OpJ.move rfl rfl) ?_
  refine AList.c 12 rfl rfl rfl (OpJ.neq rfl rfl rfl) ?_
  refine AList.nil ?_
  refine AWp.cond _ rfl (fun hc0 => ?_) (fun hc0 => ?_)
  · skip
    have hE : chkE l [] ≠ 0 := by simpa using hc0
    refine AWp.seq ?_
    refine AWp.region ?_
    refine AList.c 13 rfl rfl rfl (OpJ.move rfl rfl) ?_
    refine AList.c 6 rfl rfl rfl (OpJ.assign rfl rfl) ?_
    refine AList.c 7 rfl rfl rfl (OpJ.assign rfl rfl) ?_
    refine AList.nil ?_
    refine AWp.ret ?_
    refine Fin.manyE (xs := [.int .i64 0, .int .i64 (chkE l [])]) rfl (⟨_, _, rfl, rfl, ⟨_, _, rfl, rfl, rfl⟩⟩) rfl ?_
    have e : fromE l b = chkE l [] := by rw [chk_nil] at hE ⊢; unfold fromE; split <;> simp_all
    unfold fromN; rw [e, if_neg hE]; rfl
  · skip
    have hE : chkE l [] = 0 := by simpa using hc0
    have hC := (chk_ok hE).1
    have hS := (chk_ok hE).2
    have h24 := crd24 hC
    have hp24 := pw24 h24
    refine AWp.skip ?_
    refine AWp.seq ?_
    refine AWp.seq ?_
    refine AWp.region ?_
    refine AList.c 14 rfl rfl rfl (OpJ.move rfl rfl) ?_
    refine AList.c 15 rfl rfl rfl (OpJ.move rfl rfl) ?_
    refine AList.c 16 rfl rfl rfl (OpJ.lenSlice rfl rfl sl71 rfl) ?_
    refine AList.c 17 rfl rfl rfl (OpJ.sub_ rfl rfl rfl (i64ok ?_)) ?_
    · omega
    refine AList.c 18 rfl rfl rfl (OpJ.callP (within_ok _ _ _) rfl rfl rfl rfl rf96) ?_
    refine AList.c 19 rfl rfl rfl (OpJ.not_ rfl rfl) ?_
    refine AList.nil ?_
    refine AWp.cond _ rfl (fun hc1 => ?_) (fun hc1 => ?_)
    · skip
      have hI : ¬ inB b 0 ((l.length : Int) - 1) = true := by intro h; rw [h] at hc1; cases hc1
      refine AWp.seq ?_
      refine AWp.region ?_
      refine AList.c 6 rfl rfl rfl (OpJ.assign rfl rfl) ?_
      refine AList.c 7 rfl rfl rfl (OpJ.assign rfl rfl) ?_
      refine AList.nil ?_
      refine AWp.ret ?_
      refine Fin.manyE (xs := [.int .i64 0, .int .i64 2]) rfl (⟨_, _, rfl, rfl, ⟨_, _, rfl, rfl, rfl⟩⟩) rfl ?_
      have e : fromE l b = 2 := by unfold fromE; rw [if_pos hC, if_neg hI]
      unfold fromN; rw [e, if_neg (by decide)]; rfl
    · skip
      have hI : inB b 0 ((l.length : Int) - 1) = true := by simpa using hc1
      have hI2 := hI
      simp [inB] at hI2
      obtain ⟨b, rfl⟩ : ∃ m : Nat, b = (m : Int) := ⟨b.toNat, by omega⟩
      have hbl : b < l.length := by omega
      refine AWp.skip ?_
      refine AWp.seq ?_
      refine AWp.region ?_
      refine AList.c 20 rfl rfl rfl (OpJ.move rfl rfl) ?_
      refine AList.c 21 rfl rfl rfl (OpJ.callF (hf hC) rfl rfl rfl) ?_
      refine AList.c 22 rfl rfl rfl (OpJ.move rfl rfl) ?_
      refine AList.c 23 rfl rfl rfl (OpJ.callP (reach_ok (hw hC) h24 t y (hnx hC) b hbl) rfl rfl rfl rfl rf97) ?_
      refine AList.c 24 rfl rfl rfl (OpJ.convInt rfl rfl (by rw [un171]; rfl) un3 (i64ok ?_)) ?_
      · have h2 := (hw hC).rlt b hbl; have h3 := Nat.pow_le_pow_right (show 0 < 2 by omega) h24; omega
      refine AList.c 6 rfl rfl rfl (OpJ.assign rfl rfl) ?_
      refine AList.c 7 rfl rfl rfl (OpJ.assign rfl rfl) ?_
      refine AList.nil ?_
      refine AWp.ret ?_
      refine Fin.manyE (xs := [.int .i64 ((R b : Nat) : Int), .int .i64 0]) rfl (⟨_, _, rfl, rfl, ⟨_, _, rfl, rfl, rfl⟩⟩) rfl ?_
      have e : fromE l (b : Int) = 0 := by unfold fromE; rw [if_pos hC, if_pos hI]
      unfold fromN; rw [e, if_pos rfl]; rfl
theorem back1_ok (l : List Bat) : Pure Tryz.prog 61 [.ip [batV l] 0] (.iface 131 (batV l)) := by
  refine Pure.start (N := 4) Tryz.func61 rfl rfl (Nat.le_of_ble_eq_true rfl) ?_
  refine AWp.seq ?_
  refine AWp.region ?_
  refine AList.c 1 rfl rfl rfl (OpJ.assign rfl rfl) ?_
  refine AList.nil ?_
  refine AWp.seq ?_
  refine AWp.region ?_
  refine AList.c 2 rfl rfl rfl (OpJ.load rfl rfl ty71 rfl) ?_
  refine AList.c 3 rfl rfl rfl (OpJ.makeIface rfl rfl con131) ?_
  refine AList.c 1 rfl rfl rfl (OpJ.assign rfl rfl) ?_
  refine AList.nil ?_
  refine AWp.ret ?_
  exact Fin.one rfl (rfl)
theorem Back_ok (l : List Bat) (b : Int) (hb : l.length ≤ bigN) : Pure Tryz.prog 22 [batV l, .int .i64 b] (.tuple [.int .i64 ((fromN l (backN l) b : Nat) : Int), .int .i64 (fromE l b)]) := by
  refine Pure.start (N := 12) Tryz.func22 rfl rfl (Nat.le_of_ble_eq_true rfl) ?_
  refine AWp.seq ?_
  refine AWp.region ?_
  refine AList.c 2 rfl rfl rfl (OpJ.boxImm rfl rfl rfl) ?_
  refine AList.c 4 rfl rfl rfl (OpJ.assign rfl rfl) ?_
  refine AList.c 5 rfl rfl rfl (OpJ.assign rfl rfl) ?_
  refine AList.nil ?_
  refine AWp.seq ?_
  refine AWp.region ?_
  refine AList.c 6 rfl rfl rfl (OpJ.load rfl rfl ty71 rfl) ?_
  refine AList.c 7 rfl rfl rfl (OpJ.makeFunc rfl rfl rfl) ?_
  refine AList.c 8 rfl rfl rfl (OpJ.move rfl rfl) ?_
  refine AList.c 9 rfl rfl rfl (OpJ.callP (from_ok l b hb _ _ _ (frN l) (backN l) (fun b => b) way_back (fun h => nx_back l h) (fun _ => ⟨61, [.ip [batV l] 0], rfl, rf61, back1_ok l⟩)) rfl rfl rfl rfl rf60) ?_
  refine AList.c 10 rfl rfl rfl (OpJ.extract rfl rfl rfl) ?_
  refine AList.c 11 rfl rfl rfl (OpJ.extract rfl rfl rfl) ?_
  refine AList.c 4 rfl rfl rfl (OpJ.assign rfl rfl) ?_
  refine AList.c 5 rfl rfl rfl (OpJ.assign rfl rfl) ?_
  refine AList.nil ?_
  refine AWp.ret ?_
  exact Fin.many (xs := [.int .i64 ((fromN l (backN l) b : Nat) : Int), .int .i64 (fromE l b)]) rfl (⟨_, _, rfl, rfl, ⟨_, _, rfl, rfl, rfl⟩⟩) rfl
end Go.Proofs.YtbnemnhmejmeeaaGreatDoor.Rx
end
