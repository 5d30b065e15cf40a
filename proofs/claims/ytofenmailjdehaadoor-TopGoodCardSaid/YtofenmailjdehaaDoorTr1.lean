/-
  Small functions; sets by bits; what is valid.
-/
import Derived.Test.YtofenmailjdehaaDoorTrFacts
import Derived.Test.YtofenmailjdehaaDoorRcP
import Derived.Test.YtofenmailjdehaaDoorAfR
set_option linter.unusedVariables false
set_option maxRecDepth 100000
set_option maxHeartbeats 4000000
set_option linter.unusedSimpArgs false
namespace Go.Proofs.YtofenmailjdehaaDoor
open Go.AF
theorem glb0 : laidG Tryd.prog = [(0, tabL.map (PV.int .u8))] := by kernel_rfl
theorem within_ok (n lo hi : Int) : Pure Tryd.prog 45 [.int .i64 n, .int .i64 lo, .int .i64 hi] (.bool (inB n lo hi)) := by
  refine Pure.start (N := 15) Tryd.func45 rfl rfl (Nat.le_of_ble_eq_true rfl) ?_
  refine AWp.seq ?_
  refine AWp.region ?_
  refine AList.c 6 rfl rfl rfl (OpJ.assign rfl rfl) ?_
  refine AList.nil ?_
  refine AWp.seq ?_
  refine AWp.region ?_
  refine AList.c 7 rfl rfl rfl (OpJ.move rfl rfl) ?_
  refine AList.c 8 rfl rfl rfl (OpJ.move rfl rfl) ?_
  refine AList.c 9 rfl rfl rfl (OpJ.leq rfl rfl rfl) ?_
  refine AList.c 10 rfl rfl rfl (OpJ.move rfl rfl) ?_
  refine AList.g 11 10 rfl rfl rfl rfl rfl rfl rfl [(0, _)] (fun h => And.intro (.inl rfl) (trivial)) (fun h => (OpJ.move rfl rfl)) ?_
  refine AList.g 12 10 rfl rfl rfl rfl rfl rfl rfl [(2, _)] (fun h => And.intro (.inl rfl) (trivial)) (fun h => (OpJ.move rfl rfl)) ?_
  refine AList.g 13 10 rfl rfl rfl rfl rfl rfl rfl [(11, _), (12, _)] (fun h => And.intro (.inr ⟨_, rfl, h⟩) (And.intro (.inr ⟨_, rfl, h⟩) (trivial))) (fun h => (OpJ.leq rfl rfl rfl)) ?_
  refine AList.c 14 rfl rfl rfl (OpJ.and_ rfl rfl rfl ?_) ?_
  · first | (intro h; rw [h]; rfl) | (intro h; simp_all)
  refine AList.c 6 rfl rfl rfl (OpJ.assign rfl rfl) ?_
  refine AList.nil ?_
  refine AWp.ret ?_
  exact Fin.one rfl (rfl)
theorem tz_ok (n k : Nat) (h0 : 0 < n) (h : n < 2 ^ 32) (hl : n &&& (2 ^ 32 - n) = 2 ^ k) (hk : k < 32) : Pure Tryd.prog 49 [.int .u32 (n : Int)] (.int .i64 ((k : Nat) : Int)) := by
  have hT : (tabL.map (PV.int .u8))[(((2 ^ k * 125613361 % 4294967296 / 2 ^ 27 : Nat) : Int)).toNat * 1]? = some (.int .u8 ((k : Nat) : Int)) := by rw [Nat.mul_one, Int.toNat_natCast, List.getElem?_map, tab_at k hk]; rfl
  refine Pure.start (N := 14) Tryd.func49 rfl rfl (Nat.le_of_ble_eq_true rfl) ?_
  refine AWp.seq ?_
  refine AWp.region ?_
  refine AList.c 2 rfl rfl rfl (OpJ.assign rfl rfl) ?_
  refine AList.nil ?_
  refine AWp.seq ?_
  refine AWp.seq ?_
  refine AWp.region ?_
  refine AList.c 3 rfl rfl rfl (OpJ.move rfl rfl) ?_
  refine AList.c 4 rfl rfl rfl (OpJ.eql rfl rfl rfl) ?_
  refine AList.nil ?_
  refine AWp.cond _ rfl (fun hc0 => ?_) (fun hc0 => ?_)
  · skip
    exfalso
    simp at hc0
    omega
  · skip
    refine AWp.skip ?_
    refine AWp.seq ?_
    refine AWp.region ?_
    refine AList.c 5 rfl rfl rfl (OpJ.move rfl rfl) ?_
    refine AList.c 6 rfl rfl rfl (OpJ.move rfl rfl) ?_
    refine AList.c 7 rfl rfl rfl (OpJ.neg (m := ((2 ^ 32 - n : Nat) : Int)) rfl rfl ?_) ?_
    · exact u32neg h0 h
    refine AList.c 8 rfl rfl rfl (OpJ.andN n (2 ^ 32 - n) rfl rfl rfl (by first | (show _ ≤ (9223372036854775807 : Int); omega) | (show _ ≤ (4294967295 : Int); omega)) (by first | decide | (show _ ≤ (9223372036854775807 : Int); omega) | (show _ ≤ (4294967295 : Int); omega))) ?_
    rw [hl]
    refine AList.c 9 rfl rfl rfl (OpJ.mul (m := ((2 ^ k * 125613361 % 4294967296 : Nat) : Int)) rfl rfl rfl ?_) ?_
    · exact u32mul k
    refine AList.c 10 rfl rfl rfl (OpJ.shrN (2 ^ k * 125613361 % 4294967296) 27 rfl rfl rfl (by first | decide | (show _ ≤ (9223372036854775807 : Int); omega) | (show _ ≤ (4294967295 : Int); omega))) ?_
    refine AList.c 11 rfl rfl rfl (OpJ.indexGlob (tbl := tabL.map (PV.int .u8)) (by rw [glb0]; exact List.mem_singleton.2 rfl) rfl rfl ar160 el160 (by omega) (by omega)) ?_
    refine AList.c 12 rfl rfl rfl (OpJ.load (v := .p (.int .u8 ((k : Nat) : Int))) rfl rfl ty5 (show aload _ _ _ _ = _ from congrArg (Option.map V.p) hT)) ?_
    refine AList.c 13 rfl rfl rfl (OpJ.convInt rfl rfl (by rw [un5]; rfl) un3 (i64ok ?_)) ?_
    · omega
    refine AList.c 2 rfl rfl rfl (OpJ.assign rfl rfl) ?_
    refine AList.nil ?_
    refine AWp.ret ?_
    exact Fin.one rfl (rfl)
theorem all_seq (n : Nat) (hn : n < 2 ^ 32) : ASeq Tryd.prog 48 (fun y => [y, .p (.ip [.int .u32 (n : Int)] 0)]) (bitsX n) := by
  intro l κ nn inv fin hκ hnn hfin hb h0 hi0
  refine ACallsK.of_body (N := 16) Tryd.func48 rfl rfl (Nat.le_of_ble_eq_true rfl) ?_
  refine AWp.seq ?_
  refine AWp.region ?_
  refine AList.c 4 rfl rfl rfl (OpJ.load rfl rfl ty78 rfl) ?_
  refine AList.c 3 rfl rfl rfl (OpJ.assign rfl rfl) ?_
  refine AList.nil ?_
  refine AWp.block ?_
  refine AWp.loopH [3, 5, 6, 7, 8, 9, 10, 11, 12, 13, 14, 15] (fun g => [(3, .p (.int .u32 ((hiN n g.1 : Nat) : Int)))]) (fun g => g.2) (fun g => g.1 ≤ 32 ∧ inv (bitsN n g.1).length g.2) (fun g => 32 - g.1) (0, h0) (show (0 : Nat) ≤ 32 ∧ inv (bitsN n 0).length h0 from ⟨Nat.zero_le _, hi0⟩) (To.sub (Sub.chd (Sub.cons (by show some (V.p (.int .u32 ((n : Nat) : Int))) = _; rw [hi_zero]) Sub.nil))) (fun g hg => ?_)
  obtain ⟨p, hcur⟩ := g
  obtain ⟨hp, hinv⟩ := hg
  dsimp only at hp hinv ⊢
  have hle := hi_le n p
  refine AWp.seq ?_
  refine AWp.seq ?_
  refine AWp.region ?_
  refine AList.c 5 rfl rfl rfl (OpJ.move rfl rfl) ?_
  refine AList.c 6 rfl rfl rfl (OpJ.neq rfl rfl rfl) ?_
  refine AList.nil ?_
  refine AWp.cond _ rfl (fun hc0 => ?_) (fun hc0 => ?_)
  · skip
    have hne : hiN n p ≠ 0 := by intro h; rw [h] at hc0; simp at hc0
    obtain ⟨k, hpk, hk32, hlow, hclr, hadd⟩ := hi_next hn hp hne
    refine AWp.skip ?_
    refine AWp.seq ?_
    refine AWp.block ?_
    refine AWp.seq ?_
    refine AWp.region ?_
    refine AList.c 11 rfl rfl rfl (OpJ.move rfl rfl) ?_
    refine AList.c 12 rfl rfl rfl (OpJ.move rfl rfl) ?_
    refine AList.c 13 rfl rfl rfl (OpJ.callP (tz_ok (hiN n p) k (by omega) (by omega) hlow hk32) rfl rfl rfl rfl rf49) ?_
    refine AList.yield 14 rfl rfl rfl rfl rfl rfl (hb _ _ _ hinv (bitsX_at hk32 hadd)) ?_
    intro b2 h2 hq2
    refine AList.c 15 rfl rfl rfl (OpJ.not_ rfl rfl) ?_
    refine AList.nil ?_
    refine AWp.cond _ rfl (fun hc1 => ?_) (fun hc1 => ?_)
    · skip
      have hb2 : b2 = false := by simpa using hc1
      subst hb2
      refine AWp.ret ?_
      exact ⟨.inr rfl, _, resV.none_ rfl, .inr hq2⟩
    · skip
      have hb2 : b2 = true := by simpa using hc1
      subst hb2
      refine AWp.skip ?_
      refine AWp.region ?_
      refine AList.c 7 rfl rfl rfl (OpJ.move rfl rfl) ?_
      refine AList.c 8 rfl rfl rfl (OpJ.move rfl rfl) ?_
      refine AList.c 9 rfl rfl rfl (OpJ.sub_ (m := ((hiN n p - 1 : Nat) : Int)) rfl rfl rfl ((u32ok ?_).trans ?_)) ?_
      · omega
      · omega
      refine AList.c 10 rfl rfl rfl (OpJ.andN (hiN n p) (hiN n p - 1) rfl rfl rfl (by first | (show _ ≤ (9223372036854775807 : Int); omega) | (show _ ≤ (4294967295 : Int); omega)) (by first | decide | (show _ ≤ (9223372036854775807 : Int); omega) | (show _ ≤ (4294967295 : Int); omega))) ?_
      refine AList.c 3 rfl rfl rfl (OpJ.assign rfl rfl) ?_
      refine AList.nil ?_
      refine ⟨(k + 1, h2), ?_, ?_, ?_⟩
      · exact ⟨by dsimp only; omega, by dsimp only; rw [hadd, List.length_append]; exact hq2⟩
      · show 32 - (k + 1) < 32 - p
        omega
      exact To.sub (Sub.cons (by show some (V.p (.int .u32 _)) = _; rw [hclr]) (by repeat (first | exact Sub.nil | refine Sub.cons rfl ?_)))
  · skip
    have hz : hiN n p = 0 := by have h : ((hiN n p : Nat) : Int) = 0 := (by simpa using hc0); omega
    have hall := hi_done hp hz
    refine AWp.exit ?_
    exact ⟨.inl rfl, _, resV.none_ rfl, .inl (by rw [bitsX_len, hall]; exact hinv)⟩
theorem all_ok (n : Nat) : Pure Tryd.prog 25 [.int .u32 (n : Int)] (.func (.func 48) [] [.ip [.int .u32 (n : Int)] 0]) := by
  refine Pure.start (N := 4) Tryd.func25 rfl rfl (Nat.le_of_ble_eq_true rfl) ?_
  refine AWp.seq ?_
  refine AWp.region ?_
  refine AList.c 1 rfl rfl rfl (OpJ.boxImm rfl rfl rfl) ?_
  refine AList.c 2 rfl rfl rfl (OpJ.assign rfl rfl) ?_
  refine AList.nil ?_
  refine AWp.seq ?_
  refine AWp.region ?_
  refine AList.c 3 rfl rfl rfl (OpJ.makeFunc rfl rfl rfl) ?_
  refine AList.c 2 rfl rfl rfl (OpJ.assign rfl rfl) ?_
  refine AList.nil ?_
  refine AWp.ret ?_
  exact Fin.one rfl (rfl)
theorem join_ok (l : List Nat) (hl : ∀ x ∈ l, x < 2 ^ 32) (hb : l.length ≤ bigN) : Pure Tryd.prog 23 [.is (l.flatMap u1) l.length] (.int .u32 ((orL l : Nat) : Int)) := by
  unfold bigN at hb
  refine Pure.start (N := 16) Tryd.func23 rfl rfl (Nat.le_of_ble_eq_true rfl) ?_
  refine AWp.seq ?_
  refine AWp.region ?_
  refine AList.c 2 rfl rfl rfl (OpJ.assign rfl rfl) ?_
  refine AList.nil ?_
  refine AWp.seq ?_
  refine AWp.seq ?_
  refine AWp.region ?_
  refine AList.c 5 rfl rfl rfl (OpJ.move rfl rfl) ?_
  refine AList.c 6 rfl rfl rfl (OpJ.lenSlice rfl rfl sl126 rfl) ?_
  refine AList.c 7 rfl rfl rfl (OpJ.move rfl rfl) ?_
  refine AList.nil ?_
  refine AWp.block ?_
  refine AWp.loopKL [5, 6, 15] (fun g => [(7, .p (.int .i64 ((g : Nat) : Int))), (2, .p (.int .u32 ((orL (l.take g) : Nat) : Int)))]) (fun g => g ≤ l.length) (fun g => l.length - g) 0 (Nat.zero_le _) (Sub.cons rfl (Sub.cons rfl (Sub.nil))) (fun i hg => ?_)
  refine AWp.seq ?_
  refine AWp.region ?_
  refine AList.c 8 rfl rfl rfl (OpJ.lss rfl rfl rfl) ?_
  refine AList.nil ?_
  refine AWp.seq ?_
  refine AWp.cond _ rfl (fun hc0 => ?_) (fun hc0 => ?_)
  · skip
    have hk0 : i < l.length := by have h := of_decide_eq_true hc0; omega
    have hx := hl _ (ut_mem hk0)
    have ho := orL_lt (l := l.take i) fun x hx => hl x (List.mem_of_mem_take hx)
    have ho2 := orL_lt (l := l.take (i + 1)) fun x hx => hl x (List.mem_of_mem_take hx)
    have hT := orL_take hk0
    rw [ut_get i hk0] at hT
    rw [hT] at ho2
    refine AWp.skip ?_
    refine AWp.seq ?_
    refine AWp.block ?_
    refine AWp.seq ?_
    refine AWp.region ?_
    refine AList.c 9 rfl rfl rfl (OpJ.indexG (g := ut l) ut_get rfl rfl rfl sl126 el126 rfl (fun _ => rfl) (by decide) hk0) ?_
    refine AList.c 10 rfl rfl rfl (OpJ.load rfl rfl ty78 rfl) ?_
    refine AList.c 4 rfl rfl rfl (OpJ.assign rfl rfl) ?_
    refine AList.nil ?_
    refine AWp.region ?_
    refine AList.c 11 rfl rfl rfl (OpJ.move rfl rfl) ?_
    refine AList.c 12 rfl rfl rfl (OpJ.move rfl rfl) ?_
    refine AList.c 13 rfl rfl rfl (OpJ.orN (orL (l.take i)) (ut l i) rfl rfl rfl (by show _ ≤ (4294967295 : Int); omega) (by show _ ≤ (4294967295 : Int); omega) (by show _ ≤ (4294967295 : Int); omega)) ?_
    refine AList.c 2 rfl rfl rfl (OpJ.assign rfl rfl) ?_
    refine AList.nil ?_
    refine AWp.region ?_
    refine AList.c 14 rfl rfl rfl (OpJ.add rfl rfl rfl (i64ok ?_)) ?_
    · omega
    refine AList.c 7 rfl rfl rfl (OpJ.move rfl rfl) ?_
    refine AList.nil ?_
    refine ⟨i + 1, ?_, ?_, ?_⟩
    · omega
    · omega
    refine To.done [] rfl (Sub.cons rfl (Sub.cons (by rw [hT]; rfl) (by repeat (first | exact Sub.nil | refine Sub.cons rfl ?_)))) rfl
  · skip
    obtain rfl : i = l.length := by have h := of_decide_eq_false hc0; omega
    rw [List.take_length]
    refine AWp.exit ?_
    refine AWp.seq ?_
    refine AWp.region ?_
    refine AList.c 15 rfl rfl rfl (OpJ.move rfl rfl) ?_
    refine AList.c 2 rfl rfl rfl (OpJ.assign rfl rfl) ?_
    refine AList.nil ?_
    refine AWp.ret ?_
    exact Fin.one rfl (rfl)
theorem indexF_ok (xs : List Int) (f : PV) (p : Int → Bool) (hx : xs.length ≤ bigN) (hf : ∀ x ∈ xs, FPure Tryd.prog f [.int .i64 x] (.bool (p x))) : Pure Tryd.prog 73 [.is (xs.flatMap i1) xs.length, f] (.int .i64 (idxF p xs)) := by
  unfold bigN at hx
  refine Pure.start (N := 19) Tryd.func73 rfl rfl (Nat.le_of_ble_eq_true rfl) ?_
  refine AWp.seq ?_
  refine AWp.region ?_
  refine AList.c 4 rfl rfl rfl (OpJ.assign rfl rfl) ?_
  refine AList.nil ?_
  refine AWp.seq ?_
  refine AWp.seq ?_
  refine AWp.region ?_
  refine AList.c 6 rfl rfl rfl (OpJ.move rfl rfl) ?_
  refine AList.c 7 rfl rfl rfl (OpJ.lenSlice rfl rfl sl22 rfl) ?_
  refine AList.c 8 rfl rfl rfl (OpJ.move rfl rfl) ?_
  refine AList.nil ?_
  refine AWp.block ?_
  refine AWp.loopK [4, 5, 8, 9, 10, 11, 12, 13, 14, 15, 16, 17, 18] (fun g => [(8, .p (.int .i64 ((g : Nat) : Int)))]) (fun g => g ≤ xs.length ∧ ∀ j (hj : j < g) (h : g ≤ xs.length), p (xs[j]'(by omega)) = false) (fun g => xs.length - g) 0 ⟨Nat.zero_le _, fun j hj => absurd hj (by omega)⟩ (Sub.cons rfl (Sub.nil)) (fun i hg => ?_)
  obtain ⟨hg1, hg2⟩ := hg
  refine AWp.seq ?_
  refine AWp.region ?_
  refine AList.c 9 rfl rfl rfl (OpJ.lss rfl rfl rfl) ?_
  refine AList.nil ?_
  refine AWp.seq ?_
  refine AWp.cond _ rfl (fun hc0 => ?_) (fun hc0 => ?_)
  · skip
    refine AWp.skip ?_
    refine AWp.seq ?_
    refine AWp.block ?_
    refine AWp.seq ?_
    refine AWp.region ?_
    refine AList.c 10 rfl rfl rfl (OpJ.move rfl rfl) ?_
    refine AList.c 5 rfl rfl rfl (OpJ.assign rfl rfl) ?_
    refine AList.nil ?_
    refine AWp.seq ?_
    refine AWp.region ?_
    refine AList.c 11 rfl rfl rfl (OpJ.move rfl rfl) ?_
    refine AList.c 12 rfl rfl rfl (OpJ.move rfl rfl) ?_
    refine AList.c 13 rfl rfl rfl (OpJ.move rfl rfl) ?_
    refine AList.c 14 rfl rfl rfl (OpJ.indexEl rfl rfl rfl sl22 el22 rfl (fun _ => rfl) (by decide) ?_) ?_
    · simp at hc0; omega
    refine AList.c 15 rfl rfl rfl (OpJ.load rfl rfl ty3 rfl) ?_
    refine AList.c 16 rfl rfl rfl (OpJ.callF (hf _ (List.getElem_mem _)) rfl rfl rfl) ?_
    refine AList.nil ?_
    refine AWp.cond _ rfl (fun hc1 => ?_) (fun hc1 => ?_)
    · skip
      refine AWp.seq ?_
      refine AWp.region ?_
      refine AList.c 17 rfl rfl rfl (OpJ.move rfl rfl) ?_
      refine AList.c 4 rfl rfl rfl (OpJ.assign rfl rfl) ?_
      refine AList.nil ?_
      refine AWp.ret ?_
      refine Fin.oneE rfl rfl ?_
      rw [idxF_at p xs i (by simp at hc0; omega) (fun j hj => hg2 j hj hg1) hc1]
    · skip
      refine AWp.skip ?_
      refine AWp.region ?_
      refine AList.c 18 rfl rfl rfl (OpJ.add rfl rfl rfl (i64ok ?_)) ?_
      · simp at hc0; omega
      refine AList.c 8 rfl rfl rfl (OpJ.move rfl rfl) ?_
      refine AList.nil ?_
      refine ⟨i + 1, ?_, ?_, ?_⟩
      · refine ⟨by simp at hc0; omega, fun j hj h => ?_⟩
        rcases Nat.lt_succ_iff_lt_or_eq.1 hj with h1 | rfl
        · exact hg2 j h1 hg1
        · exact hc1
      · simp at hc0; omega
      exact To.done [] rfl (by repeat (first | exact Sub.nil | refine Sub.cons rfl ?_)) rfl
  · skip
    refine AWp.exit ?_
    refine AWp.seq ?_
    refine AWp.region ?_
    refine AList.c 4 rfl rfl rfl (OpJ.assign rfl rfl) ?_
    refine AList.nil ?_
    refine AWp.ret ?_
    refine Fin.oneE rfl rfl ?_
    rw [idxF_none p xs (fun j hj => hg2 j (by simp at hc0; omega) hg1)]
theorem containsF_ok (xs : List Int) (f : PV) (p : Int → Bool) (hx : xs.length ≤ bigN) (hf : ∀ x ∈ xs, FPure Tryd.prog f [.int .i64 x] (.bool (p x))) : Pure Tryd.prog 47 [.is (xs.flatMap i1) xs.length, f] (.bool (xs.any p)) := by
  refine Pure.start (N := 9) Tryd.func47 rfl rfl (Nat.le_of_ble_eq_true rfl) ?_
  refine AWp.seq ?_
  refine AWp.region ?_
  refine AList.c 4 rfl rfl rfl (OpJ.assign rfl rfl) ?_
  refine AList.nil ?_
  refine AWp.seq ?_
  refine AWp.region ?_
  refine AList.c 5 rfl rfl rfl (OpJ.move rfl rfl) ?_
  refine AList.c 6 rfl rfl rfl (OpJ.move rfl rfl) ?_
  refine AList.c 7 rfl rfl rfl (OpJ.callP (indexF_ok _ _ p ?_ ?_) rfl rfl rfl rfl rf73) ?_
  · exact hx
  · exact hf
  refine AList.c 8 rfl rfl rfl (OpJ.geq rfl rfl rfl) ?_
  refine AList.c 4 rfl rfl rfl (OpJ.assign rfl rfl) ?_
  refine AList.nil ?_
  refine AWp.ret ?_
  refine Fin.oneE rfl rfl ?_
  rw [idxF_any]
theorem check1_ok (n : Int) (l : List Bat) (hl : l.length ≤ 24) : Pure Tryd.prog 44 [.int .i64 n, .ip [batV l] 0] (.bool (!inB n 0 (pw l.length - 1))) := by
  have hp := pw24 hl
  have hp2 : ((2 ^ l.length : Nat) : Int) = pw l.length := rfl
  refine Pure.start (N := 11) Tryd.func44 rfl rfl (Nat.le_of_ble_eq_true rfl) ?_
  refine AWp.seq ?_
  refine AWp.region ?_
  refine AList.c 3 rfl rfl rfl (OpJ.assign rfl rfl) ?_
  refine AList.nil ?_
  refine AWp.seq ?_
  refine AWp.region ?_
  refine AList.c 4 rfl rfl rfl (OpJ.move rfl rfl) ?_
  refine AList.c 5 rfl rfl rfl (OpJ.load rfl rfl ty29 rfl) ?_
  refine AList.c 6 rfl rfl rfl (OpJ.lenSlice rfl rfl sl29 rfl) ?_
  refine AList.c 7 rfl rfl rfl (OpJ.shlN 1 l.length rfl rfl rfl (by show _ ≤ (64 : Nat); omega) (by show _ ≤ (9223372036854775807 : Int); rw [Nat.one_mul]; omega)) ?_
  rw [Nat.one_mul]
  refine AList.c 8 rfl rfl rfl (OpJ.sub_ (m := (pw l.length - 1)) rfl rfl rfl ((i64ok ?_).trans ?_)) ?_
  · omega
  · rfl
  refine AList.c 9 rfl rfl rfl (OpJ.callP (within_ok _ _ _) rfl rfl rfl rfl rf45) ?_
  refine AList.c 10 rfl rfl rfl (OpJ.not_ rfl rfl) ?_
  refine AList.c 3 rfl rfl rfl (OpJ.assign rfl rfl) ?_
  refine AList.nil ?_
  refine AWp.ret ?_
  exact Fin.one rfl (rfl)
theorem areCards_ok (l : List Bat) (hb : l.length ≤ bigN) : Pure Tryd.prog 46 [batV l] (.bool (decide (crdOk l))) := by
  unfold bigN at hb
  refine Pure.start (N := 30) Tryd.func46 rfl rfl (Nat.le_of_ble_eq_true rfl) ?_
  refine AWp.seq ?_
  refine AWp.region ?_
  refine AList.c 2 rfl rfl rfl (OpJ.assign rfl rfl) ?_
  refine AList.nil ?_
  refine AWp.seq ?_
  refine AWp.seq ?_
  refine AWp.region ?_
  refine AList.c 5 rfl rfl rfl (OpJ.move rfl rfl) ?_
  refine AList.c 6 rfl rfl rfl (OpJ.lenSlice rfl rfl sl29 rfl) ?_
  refine AList.c 7 rfl rfl rfl (OpJ.move rfl rfl) ?_
  refine AList.nil ?_
  refine AWp.block ?_
  refine AWp.loopHL [5, 6] (fun g => [(7, .p (.int .i64 ((g : Nat) : Int)))]) (fun g => []) (fun g => g ≤ l.length ∧ ∀ i, i < g → crdO l i) (fun g => l.length - g) 0 ⟨Nat.zero_le _, fun j hj => absurd hj (by omega)⟩ (To.sub (Sub.chk (Sub.cons rfl (Sub.nil)))) (fun j hg => ?_)
  obtain ⟨hg1, hg2⟩ := hg
  refine AWp.seq ?_
  refine AWp.region ?_
  refine AList.c 8 rfl rfl rfl (OpJ.lss rfl rfl rfl) ?_
  refine AList.nil ?_
  refine AWp.seq ?_
  refine AWp.cond _ rfl (fun hc0 => ?_) (fun hc0 => ?_)
  · skip
    have hk0 : j < l.length := by have h := of_decide_eq_true hc0; omega
    refine AWp.skip ?_
    refine AWp.seq ?_
    refine AWp.block ?_
    refine AWp.seq ?_
    refine AWp.region ?_
    refine AList.c 9 rfl rfl rfl (OpJ.move rfl rfl) ?_
    refine AList.c 10 rfl rfl rfl (OpJ.indexG (g := bt l) bt_get rfl rfl rfl sl29 el29 rfl (fun _ => rfl) (by decide) hk0) ?_
    refine AList.c 11 rfl rfl rfl (OpJ.load (v := .p (.agg (bt l j).cells)) rfl rfl ty31 rfl) ?_
    refine AList.c 4 rfl rfl rfl (OpJ.allocOwn rfl zr31 rfl) ?_
    refine AList.c 3 rfl rfl rfl (OpJ.assign rfl rfl) ?_
    refine AList.c0 rfl rfl (OpJ.store (H' := [.cells ((bt l j).cells.map .p) 31]) rfl rfl rfl rfl rfl ty31 rfl rfl) ?_
    refine AList.nil ?_
    refine AWp.seq ?_
    refine AWp.regionDraw 17 mixed (by kernel_rfl) (by decide) ?_
    refine AQuiet.cons 12 rfl rfl rfl (OpJ.move rfl rfl) ?_
    refine AQuiet.cons 13 rfl rfl rfl (OpJ.geq rfl rfl rfl) ?_
    refine AQuiet.cons 14 rfl rfl rfl (OpJ.move rfl rfl) ?_
    refine AQuiet.guard 15 14 rfl rfl rfl rfl rfl rfl rfl [(4, _)] (fun h => And.intro (.inl rfl) (trivial)) (fun h => (OpJ.fieldAddr rfl rfl fd31_0 rfl)) ?_
    refine AQuiet.guard 16 14 rfl rfl rfl rfl rfl rfl rfl [(15, _)] (fun h => And.intro (.inr ⟨_, rfl, h⟩) (trivial)) (fun h => (OpJ.load (v := .p (.int .i64 (bt l j).f)) rfl rfl ty3 rfl)) ?_
    refine AQuiet.guard 17 14 rfl rfl rfl rfl rfl rfl rfl [(3, _)] (fun h => And.intro (.inl rfl) (trivial)) (fun h => (OpJ.move rfl rfl)) ?_
    refine AQuiet.guard 18 14 rfl rfl rfl rfl rfl rfl rfl [(17, _)] (fun h => And.intro (.inr ⟨_, rfl, h⟩) (trivial)) (fun h => (OpJ.shlN 1 j rfl rfl rfl (by show _ ≤ (64 : Nat); have hj : j ≤ 24 := (by simp at h; omega); omega) (by show _ ≤ (9223372036854775807 : Int); rw [Nat.one_mul]; have hj : j ≤ 24 := (by simp at h; omega); have := pw24 hj; unfold pw at this; omega))) ?_
    refine AQuiet.guard 19 14 rfl rfl rfl rfl rfl rfl rfl [(18, _)] (fun h => And.intro (.inr ⟨_, rfl, h⟩) (trivial)) (fun h => (OpJ.sub_ (m := (pw j - 1)) rfl rfl rfl ((i64ok (by rw [Nat.one_mul]; have hj : j ≤ 24 := (by simp at h; omega); have := pw24 hj; unfold pw at this; omega)).trans (by rw [Nat.one_mul]; rfl)))) ?_
    refine AQuiet.guard 20 14 rfl rfl rfl rfl rfl rfl rfl [(16, _), (19, _)] (fun h => And.intro (.inr ⟨_, rfl, h⟩) (And.intro (.inr ⟨_, rfl, h⟩) (trivial))) (fun h => (OpJ.callP (within_ok _ _ _) rfl rfl rfl rfl rf45)) ?_
    refine AQuiet.guard 21 14 rfl rfl rfl rfl rfl rfl rfl [(20, _)] (fun h => And.intro (.inr ⟨_, rfl, h⟩) (trivial)) (fun h => (OpJ.not_ rfl rfl)) ?_
    refine AQuiet.cons 22 rfl rfl rfl (OpJ.or_ rfl rfl rfl ?_) ?_
    · first | (intro h; rw [h]; rfl) | (intro h; simp_all)
    refine AQuiet.cons 23 rfl rfl rfl (OpJ.move rfl rfl) ?_
    refine AQuiet.guard 24 23 rfl rfl rfl rfl rfl rfl rfl [(4, _)] (fun h => And.intro (.inl rfl) (trivial)) (fun h => (OpJ.fieldAddr rfl rfl fd31_1 rfl)) ?_
    refine AQuiet.guard 25 23 rfl rfl rfl rfl rfl rfl rfl [(24, _)] (fun h => And.intro (.inr ⟨_, rfl, h⟩) (trivial)) (fun h => (OpJ.load (v := .p (.int .i64 (bt l j).s)) rfl rfl ty3 rfl)) ?_
    refine AQuiet.guard 26 23 rfl rfl rfl rfl rfl rfl rfl [(25, _)] (fun h => And.intro (.inr ⟨_, rfl, h⟩) (trivial)) (fun h => (OpJ.callP (within_ok _ _ _) rfl rfl rfl rfl rf45)) ?_
    refine AQuiet.guard 27 23 rfl rfl rfl rfl rfl rfl rfl [(26, _)] (fun h => And.intro (.inr ⟨_, rfl, h⟩) (trivial)) (fun h => (OpJ.not_ rfl rfl)) ?_
    refine AQuiet.cons 28 rfl rfl rfl (OpJ.or_ rfl rfl rfl ?_) ?_
    · first | (intro h; rw [h]; rfl) | (intro h; simp_all)
    refine AQuiet.nil ?_
    refine AList.nil ?_
    refine AWp.cond _ rfl (fun hc1 => ?_) (fun hc1 => ?_)
    · skip
      refine AWp.seq ?_
      refine AWp.region ?_
      refine AList.c 2 rfl rfl rfl (OpJ.assign rfl rfl) ?_
      refine AList.nil ?_
      refine AWp.ret ?_
      refine Fin.oneE rfl rfl ?_
      have h3 : ((decide ((j : Int) ≥ 24) || !inB (bt l j).f 0 (pw j - 1)) || !inB (bt l j).s 0 1048576) = true := hc1
      rw [decide_eq_false (p := crdOk l) (fun h => by have h1 := h j hk0; unfold crdO at h1; simp [inB] at h3; omega)]
    · skip
      have hst : crdO l j := by
        have h3 : ((decide ((j : Int) ≥ 24) || !inB (bt l j).f 0 (pw j - 1)) || !inB (bt l j).s 0 1048576) = false := hc1
        simp [inB] at h3
        unfold crdO
        omega
      refine AWp.skip ?_
      refine AWp.region ?_
      refine AList.c 29 rfl rfl rfl (OpJ.add rfl rfl rfl (i64ok ?_)) ?_
      · omega
      refine AList.c 7 rfl rfl rfl (OpJ.move rfl rfl) ?_
      refine AList.nil ?_
      refine ⟨j + 1, ?_, ?_, ?_⟩
      · refine ⟨by omega, fun i hi => ?_⟩
        rcases Nat.lt_succ_iff_lt_or_eq.1 hi with h1 | rfl
        · exact hg2 i h1
        · exact hst
      · omega
      exact To.done [] rfl (by repeat (first | exact Sub.nil | refine Sub.cons rfl ?_)) rfl
  · skip
    obtain rfl : j = l.length := by have h := of_decide_eq_false hc0; omega
    refine AWp.exit ?_
    refine AWp.seq ?_
    refine AWp.region ?_
    refine AList.c 2 rfl rfl rfl (OpJ.assign rfl rfl) ?_
    refine AList.nil ?_
    refine AWp.ret ?_
    refine Fin.oneE rfl rfl ?_
    rw [decide_eq_true (p := crdOk l) hg2]
theorem check_ok (l : List Bat) (sets : List Int) (hb : l.length ≤ bigN) (hs : sets.length ≤ bigN) : Pure Tryd.prog 21 [batV l, intsV sets] (.int .i64 (chkE l sets)) := by
  refine Pure.start (N := 15) Tryd.func21 rfl rfl (Nat.le_of_ble_eq_true rfl) ?_
  refine AWp.seq ?_
  refine AWp.region ?_
  refine AList.c 2 rfl rfl rfl (OpJ.boxImm rfl rfl rfl) ?_
  refine AList.c 4 rfl rfl rfl (OpJ.assign rfl rfl) ?_
  refine AList.nil ?_
  refine AWp.seq ?_
  refine AWp.region ?_
  refine AList.c 6 rfl rfl rfl (OpJ.makeFunc rfl rfl rfl) ?_
  refine AList.c 5 rfl rfl rfl (OpJ.assign rfl rfl) ?_
  refine AList.nil ?_
  refine AWp.seq ?_
  refine AWp.block ?_
  refine AWp.seq ?_
  refine AWp.region ?_
  refine AList.c 8 rfl rfl rfl (OpJ.load rfl rfl ty29 rfl) ?_
  refine AList.c 9 rfl rfl rfl (OpJ.callP (areCards_ok _ ?_) rfl rfl rfl rfl rf46) ?_
  · assumption
  refine AList.c 10 rfl rfl rfl (OpJ.not_ rfl rfl) ?_
  refine AList.c 7 rfl rfl rfl (OpJ.assign rfl rfl) ?_
  refine AList.nil ?_
  refine AWp.cond _ rfl (fun hc0 => ?_) (fun hc0 => ?_)
  · skip
    have hC : ¬ crdOk l := by simpa using hc0
    refine AWp.seq ?_
    refine AWp.region ?_
    refine AList.c 4 rfl rfl rfl (OpJ.assign rfl rfl) ?_
    refine AList.nil ?_
    refine AWp.ret ?_
    refine Fin.oneE rfl rfl ?_
    unfold chkE; rw [if_neg hC]
  · skip
    have hC : crdOk l := by simpa using hc0
    have h24 := crd24 hC
    refine AWp.seq ?_
    refine AWp.region ?_
    refine AList.c 12 rfl rfl rfl (OpJ.move rfl rfl) ?_
    refine AList.c 13 rfl rfl rfl (OpJ.move rfl rfl) ?_
    refine AList.c 14 rfl rfl rfl (OpJ.callP (containsF_ok sets _ (fun n => !inB n 0 (pw l.length - 1)) hs (fun x _ => ⟨44, [.int .i64 x, .ip [batV l] 0], rfl, rf44, check1_ok x l h24⟩)) rfl rfl rfl rfl rf47) ?_
    refine AList.c 11 rfl rfl rfl (OpJ.assign rfl rfl) ?_
    refine AList.nil ?_
    refine AWp.cond _ rfl (fun hc1 => ?_) (fun hc1 => ?_)
    · skip
      have hS : (sets.any fun n => !inB n 0 (pw l.length - 1)) = true := hc1
      refine AWp.seq ?_
      refine AWp.region ?_
      refine AList.c 4 rfl rfl rfl (OpJ.assign rfl rfl) ?_
      refine AList.nil ?_
      refine AWp.ret ?_
      refine Fin.oneE rfl rfl ?_
      unfold chkE; rw [if_pos hC, if_pos hS]
    · skip
      have hS : (sets.any fun n => !inB n 0 (pw l.length - 1)) = false := hc1
      refine AWp.skip ?_
      refine AWp.seq ?_
      refine AWp.region ?_
      refine AList.c 4 rfl rfl rfl (OpJ.assign rfl rfl) ?_
      refine AList.nil ?_
      refine AWp.ret ?_
      refine Fin.oneE rfl rfl ?_
      unfold chkE; rw [if_pos hC, if_neg (by rw [hS]; decide)]
end Go.Proofs.YtofenmailjdehaaDoor
