/-
  Small functions of xray.
-/
import Derived.Test.YtofenmailjdehaaDoorXrFacts
import Derived.Test.YtofenmailjdehaaDoorTr5
import Derived.Test.YtofenmailjdehaaDoorXrP
import Derived.Test.YtofenmailjdehaaDoorAfT
set_option linter.unusedVariables false
set_option maxRecDepth 100000
set_option maxHeartbeats 4000000
set_option linter.unusedSimpArgs false
namespace Go.Proofs.YtofenmailjdehaaDoor
open Go.AF
def lookV (x : Lk) : PV := .iface (if x.s = 0 then 148 else if x.s = 1 then 149 else 150) (.agg x.cells)
def lookC (x : Lk) : List PV := [lookV x]
theorem xwithin_ok (n lo hi : Int) : Pure Tryd.prog 38 [.int .i64 n, .int .i64 lo, .int .i64 hi] (.bool (inB n lo hi)) := by
  refine Pure.start (N := 15) Tryd.func38 rfl rfl (Nat.le_of_ble_eq_true rfl) ?_
  refine AWp.seq ?_
  refine AWp.region ?_
  refine AList.c 6 rfl rfl rfl (OpJ.assign rfl rfl) ?_
  refine AList.nil ?_
  refine AWp.seq ?_
  refine AWp.region ?_
  refine AList.c 7 rfl rfl rfl (OpJ.move rfl rfl) ?_
  refine AList.c 8 rfl rfl rfl (OpJ.move rfl rfl) ?_
  refine AList.c 9 rfl rfl rfl (OpJ.leq rfl rfl rfl) ?_
  refine AList.c 10 rfl rfl rfl (OpJ.move rfl rfl) ?_
  refine AList.g 11 10 rfl rfl rfl rfl rfl rfl rfl [(0, _)] (fun h => And.intro (.inl rfl) (trivial)) (fun h => (OpJ.move rfl rfl)) ?_
  refine AList.g 12 10 rfl rfl rfl rfl rfl rfl rfl [(2, _)] (fun h => And.intro (.inl rfl) (trivial)) (fun h => (OpJ.move rfl rfl)) ?_
  refine AList.g 13 10 rfl rfl rfl rfl rfl rfl rfl [(11, _), (12, _)] (fun h => And.intro (.inr ⟨_, rfl, h⟩) (And.intro (.inr ⟨_, rfl, h⟩) (trivial))) (fun h => (OpJ.leq rfl rfl rfl)) ?_
  refine AList.c 14 rfl rfl rfl (OpJ.and_ rfl rfl rfl ?_) ?_
  · first | (intro h; rw [h]; rfl) | (intro h; simp_all)
  refine AList.c 6 rfl rfl rfl (OpJ.assign rfl rfl) ?_
  refine AList.nil ?_
  refine AWp.ret ?_
  exact Fin.one rfl (rfl)
theorem isc1_ok (n : Int) : Pure Tryd.prog 66 [.int .i64 n] (.bool (!inB n 1 1000)) := by
  refine Pure.start (N := 6) Tryd.func66 rfl rfl (Nat.le_of_ble_eq_true rfl) ?_
  refine AWp.seq ?_
  refine AWp.region ?_
  refine AList.c 2 rfl rfl rfl (OpJ.assign rfl rfl) ?_
  refine AList.nil ?_
  refine AWp.seq ?_
  refine AWp.region ?_
  refine AList.c 3 rfl rfl rfl (OpJ.move rfl rfl) ?_
  refine AList.c 4 rfl rfl rfl (OpJ.callP (xwithin_ok _ _ _) rfl rfl rfl rfl rf38) ?_
  refine AList.c 5 rfl rfl rfl (OpJ.not_ rfl rfl) ?_
  refine AList.c 2 rfl rfl rfl (OpJ.assign rfl rfl) ?_
  refine AList.nil ?_
  refine AWp.ret ?_
  exact Fin.one rfl (rfl)
theorem isCrate_ok (c : Crt) (hb : c.rows.length ≤ bigN) : Pure Tryd.prog 39 [crV c] (.bool (crB c)) := by
  refine Pure.start (N := 32) Tryd.func39 rfl rfl (Nat.le_of_ble_eq_true rfl) ?_
  refine AWp.seq ?_
  refine AWp.region ?_
  refine AList.c 1 rfl rfl rfl (OpJ.boxImm rfl rfl rfl) ?_
  refine AList.c 2 rfl rfl rfl (OpJ.assign rfl rfl) ?_
  refine AList.nil ?_
  refine AWp.seq ?_
  refine AWp.region ?_
  refine AList.c 3 rfl rfl rfl (OpJ.assign rfl rfl) ?_
  refine AList.nil ?_
  refine AWp.seq ?_
  refine AWp.region ?_
  refine AList.c 5 rfl rfl rfl (OpJ.fieldAddr rfl rfl fd24_0 rfl) ?_
  refine AList.c 6 rfl rfl rfl (OpJ.load rfl rfl ty22 rfl) ?_
  refine AList.c 7 rfl rfl rfl (OpJ.lenSlice rfl rfl sl22 rfl) ?_
  refine AList.c 8 rfl rfl rfl (OpJ.callP (xwithin_ok _ _ _) rfl rfl rfl rfl rf38) ?_
  refine AList.c 9 rfl rfl rfl (OpJ.move rfl rfl) ?_
  refine AList.g 10 9 rfl rfl rfl rfl rfl rfl rfl [(1, _)] (fun h => And.intro (.inl rfl) (trivial)) (fun h => (OpJ.fieldAddr rfl rfl fd24_1 rfl)) ?_
  refine AList.g 11 9 rfl rfl rfl rfl rfl rfl rfl [(10, _)] (fun h => And.intro (.inr ⟨_, rfl, h⟩) (trivial)) (fun h => (OpJ.load rfl rfl ty3 rfl)) ?_
  refine AList.g 12 9 rfl rfl rfl rfl rfl rfl rfl [(11, _)] (fun h => And.intro (.inr ⟨_, rfl, h⟩) (trivial)) (fun h => (OpJ.callP (xwithin_ok _ _ _) rfl rfl rfl rfl rf38)) ?_
  refine AList.c 13 rfl rfl rfl (OpJ.and_ rfl rfl rfl ?_) ?_
  · first | (intro h; rw [h]; rfl) | (intro h; simp_all)
  refine AList.c 14 rfl rfl rfl (OpJ.move rfl rfl) ?_
  refine AList.g 15 14 rfl rfl rfl rfl rfl rfl rfl [(1, _)] (fun h => And.intro (.inl rfl) (trivial)) (fun h => (OpJ.fieldAddr rfl rfl fd24_0 rfl)) ?_
  refine AList.g 16 14 rfl rfl rfl rfl rfl rfl rfl [(15, _)] (fun h => And.intro (.inr ⟨_, rfl, h⟩) (trivial)) (fun h => (OpJ.load rfl rfl ty22 rfl)) ?_
  refine AList.g 17 14 rfl rfl rfl rfl rfl rfl rfl [(3, _)] (fun h => And.intro (.inl rfl) (trivial)) (fun h => (OpJ.move rfl rfl)) ?_
  refine AList.g 18 14 rfl rfl rfl rfl rfl rfl rfl [(16, _), (17, _)] (fun h => And.intro (.inr ⟨_, rfl, h⟩) (And.intro (.inr ⟨_, rfl, h⟩) (trivial))) (fun h => (OpJ.callP (containsF_ok c.rows _ (fun n => !inB n 1 1000) hb (fun x _ => ⟨66, [.int .i64 x], rfl, rf66, isc1_ok x⟩)) rfl rfl rfl rfl rf47)) ?_
  refine AList.g 19 14 rfl rfl rfl rfl rfl rfl rfl [(18, _)] (fun h => And.intro (.inr ⟨_, rfl, h⟩) (trivial)) (fun h => (OpJ.not_ rfl rfl)) ?_
  refine AList.c 20 rfl rfl rfl (OpJ.and_ rfl rfl rfl ?_) ?_
  · first | (intro h; rw [h]; rfl) | (intro h; simp_all)
  refine AList.c 4 rfl rfl rfl (OpJ.assign rfl rfl) ?_
  refine AList.nil ?_
  refine AWp.seq ?_
  refine AWp.region ?_
  refine AList.c 21 rfl rfl rfl (OpJ.move rfl rfl) ?_
  refine AList.c 22 rfl rfl rfl (OpJ.move rfl rfl) ?_
  refine AList.g 23 22 rfl rfl rfl rfl rfl rfl rfl [(1, _)] (fun h => And.intro (.inl rfl) (trivial)) (fun h => (OpJ.fieldAddr rfl rfl fd24_2 rfl)) ?_
  refine AList.g 24 22 rfl rfl rfl rfl rfl rfl rfl [(23, _)] (fun h => And.intro (.inr ⟨_, rfl, h⟩) (trivial)) (fun h => (OpJ.load rfl rfl ty3 rfl)) ?_
  refine AList.g 25 22 rfl rfl rfl rfl rfl rfl rfl [(24, _)] (fun h => And.intro (.inr ⟨_, rfl, h⟩) (trivial)) (fun h => (OpJ.callP (xwithin_ok _ _ _) rfl rfl rfl rfl rf38)) ?_
  refine AList.c 26 rfl rfl rfl (OpJ.and_ rfl rfl rfl ?_) ?_
  · first | (intro h; rw [h]; rfl) | (intro h; simp_all)
  refine AList.c 27 rfl rfl rfl (OpJ.move rfl rfl) ?_
  refine AList.g 28 27 rfl rfl rfl rfl rfl rfl rfl [(1, _)] (fun h => And.intro (.inl rfl) (trivial)) (fun h => (OpJ.fieldAddr rfl rfl fd24_3 rfl)) ?_
  refine AList.g 29 27 rfl rfl rfl rfl rfl rfl rfl [(28, _)] (fun h => And.intro (.inr ⟨_, rfl, h⟩) (trivial)) (fun h => (OpJ.load rfl rfl ty3 rfl)) ?_
  refine AList.g 30 27 rfl rfl rfl rfl rfl rfl rfl [(29, _)] (fun h => And.intro (.inr ⟨_, rfl, h⟩) (trivial)) (fun h => (OpJ.callP (xwithin_ok _ _ _) rfl rfl rfl rfl rf38)) ?_
  refine AList.c 31 rfl rfl rfl (OpJ.and_ rfl rfl rfl ?_) ?_
  · first | (intro h; rw [h]; rfl) | (intro h; simp_all)
  refine AList.c 2 rfl rfl rfl (OpJ.assign rfl rfl) ?_
  refine AList.nil ?_
  refine AWp.ret ?_
  exact Fin.one rfl (rfl)
theorem isPlace_ok (c : Crt) (r k : Int) (hc : crB c = true) : Pure Tryd.prog 37 [crV c, .int .i64 r, .int .i64 k] (.bool (plB c r k)) := by
  obtain ⟨h1, h2, _⟩ := crB_of hc
  refine Pure.start (N := 20) Tryd.func37 rfl rfl (Nat.le_of_ble_eq_true rfl) ?_
  refine AWp.seq ?_
  refine AWp.region ?_
  refine AList.c 3 rfl rfl rfl (OpJ.boxImm rfl rfl rfl) ?_
  refine AList.c 6 rfl rfl rfl (OpJ.assign rfl rfl) ?_
  refine AList.nil ?_
  refine AWp.seq ?_
  refine AWp.region ?_
  refine AList.c 7 rfl rfl rfl (OpJ.move rfl rfl) ?_
  refine AList.c 8 rfl rfl rfl (OpJ.fieldAddr rfl rfl fd24_0 rfl) ?_
  refine AList.c 9 rfl rfl rfl (OpJ.load rfl rfl ty22 rfl) ?_
  refine AList.c 10 rfl rfl rfl (OpJ.lenSlice rfl rfl sl22 rfl) ?_
  refine AList.c 11 rfl rfl rfl (OpJ.sub_ rfl rfl rfl (i64ok ?_)) ?_
  · omega
  refine AList.c 12 rfl rfl rfl (OpJ.callP (xwithin_ok _ _ _) rfl rfl rfl rfl rf38) ?_
  refine AList.c 13 rfl rfl rfl (OpJ.move rfl rfl) ?_
  refine AList.g 14 13 rfl rfl rfl rfl rfl rfl rfl [(2, _)] (fun h => And.intro (.inl rfl) (trivial)) (fun h => (OpJ.move rfl rfl)) ?_
  refine AList.g 15 13 rfl rfl rfl rfl rfl rfl rfl [(3, _)] (fun h => And.intro (.inl rfl) (trivial)) (fun h => (OpJ.fieldAddr rfl rfl fd24_1 rfl)) ?_
  refine AList.g 16 13 rfl rfl rfl rfl rfl rfl rfl [(15, _)] (fun h => And.intro (.inr ⟨_, rfl, h⟩) (trivial)) (fun h => (OpJ.load rfl rfl ty3 rfl)) ?_
  refine AList.g 17 13 rfl rfl rfl rfl rfl rfl rfl [(16, _)] (fun h => And.intro (.inr ⟨_, rfl, h⟩) (trivial)) (fun h => (OpJ.sub_ rfl rfl rfl (i64ok ?_))) ?_
  · omega
  refine AList.g 18 13 rfl rfl rfl rfl rfl rfl rfl [(14, _), (17, _)] (fun h => And.intro (.inr ⟨_, rfl, h⟩) (And.intro (.inr ⟨_, rfl, h⟩) (trivial))) (fun h => (OpJ.callP (xwithin_ok _ _ _) rfl rfl rfl rfl rf38)) ?_
  refine AList.c 19 rfl rfl rfl (OpJ.and_ rfl rfl rfl ?_) ?_
  · first | (intro h; rw [h]; rfl) | (intro h; simp_all)
  refine AList.c 6 rfl rfl rfl (OpJ.assign rfl rfl) ?_
  refine AList.nil ?_
  refine AWp.ret ?_
  exact Fin.one rfl (rfl)
theorem open1_ok (c : Crt) (x : Lk) (hc : crB c = true) : Pure Tryd.prog 36 [.agg x.cells, .ip (crC c) 0] (.bool (wrB c x)) := by
  refine Pure.start (N := 17) Tryd.func36 rfl rfl (Nat.le_of_ble_eq_true rfl) ?_
  refine AWp.seq ?_
  refine AWp.region ?_
  refine AList.c 2 rfl rfl rfl (OpJ.boxImm rfl rfl rfl) ?_
  refine AList.c 3 rfl rfl rfl (OpJ.assign rfl rfl) ?_
  refine AList.nil ?_
  refine AWp.seq ?_
  refine AWp.region ?_
  refine AList.c 4 rfl rfl rfl (OpJ.load (v := .p (crV c)) rfl rfl ty24 rfl) ?_
  refine AList.c 5 rfl rfl rfl (OpJ.fieldAddr rfl rfl fd33_0 rfl) ?_
  refine AList.c 6 rfl rfl rfl (OpJ.load (v := .p (.int .i64 x.r)) rfl rfl ty3 rfl) ?_
  refine AList.c 7 rfl rfl rfl (OpJ.fieldAddr rfl rfl fd33_1 rfl) ?_
  refine AList.c 8 rfl rfl rfl (OpJ.load (v := .p (.int .i64 x.c)) rfl rfl ty3 rfl) ?_
  refine AList.c 9 rfl rfl rfl (OpJ.callP (isPlace_ok c x.r x.c hc) rfl rfl rfl rfl rf37) ?_
  refine AList.c 10 rfl rfl rfl (OpJ.not_ rfl rfl) ?_
  refine AList.c 11 rfl rfl rfl (OpJ.move rfl rfl) ?_
  refine AList.g 12 11 rfl rfl rfl rfl rfl rfl rfl [(2, _)] (fun h => And.intro (.inl rfl) (trivial)) (fun h => (OpJ.fieldAddr rfl rfl fd33_2 rfl)) ?_
  refine AList.g 13 11 rfl rfl rfl rfl rfl rfl rfl [(12, _)] (fun h => And.intro (.inr ⟨_, rfl, h⟩) (trivial)) (fun h => (OpJ.load (v := .p (.int .i64 x.s)) rfl rfl ty3 rfl)) ?_
  refine AList.g 14 11 rfl rfl rfl rfl rfl rfl rfl [(13, _)] (fun h => And.intro (.inr ⟨_, rfl, h⟩) (trivial)) (fun h => (OpJ.callP (xwithin_ok _ _ _) rfl rfl rfl rfl rf38)) ?_
  refine AList.g 15 11 rfl rfl rfl rfl rfl rfl rfl [(14, _)] (fun h => And.intro (.inr ⟨_, rfl, h⟩) (trivial)) (fun h => (OpJ.not_ rfl rfl)) ?_
  refine AList.c 16 rfl rfl rfl (OpJ.or_ rfl rfl rfl ?_) ?_
  · first | (intro h; rw [h]; rfl) | (intro h; simp_all)
  refine AList.c 3 rfl rfl rfl (OpJ.assign rfl rfl) ?_
  refine AList.nil ?_
  refine AWp.ret ?_
  exact Fin.one rfl (rfl)
theorem indexLk_ok (xs : List Lk) (f : PV) (p : Lk → Bool) (hx : xs.length ≤ bigN) (hf : ∀ x ∈ xs, FPure Tryd.prog f [.agg x.cells] (.bool (p x))) : Pure Tryd.prog 67 [.is (xs.flatMap Lk.cells) xs.length, f] (.int .i64 (idxF p xs)) := by
  unfold bigN at hx
  refine Pure.start (N := 19) Tryd.func67 rfl rfl (Nat.le_of_ble_eq_true rfl) ?_
  refine AWp.seq ?_
  refine AWp.region ?_
  refine AList.c 4 rfl rfl rfl (OpJ.assign rfl rfl) ?_
  refine AList.nil ?_
  refine AWp.seq ?_
  refine AWp.seq ?_
  refine AWp.region ?_
  refine AList.c 6 rfl rfl rfl (OpJ.move rfl rfl) ?_
  refine AList.c 7 rfl rfl rfl (OpJ.lenSlice rfl rfl sl25 rfl) ?_
  refine AList.c 8 rfl rfl rfl (OpJ.move rfl rfl) ?_
  refine AList.nil ?_
  refine AWp.block ?_
  refine AWp.loopK [4, 5, 8, 9, 10, 11, 12, 13, 14, 15, 16, 17, 18] (fun g => [(8, .p (.int .i64 ((g : Nat) : Int)))]) (fun g => g ≤ xs.length ∧ ∀ j (hj : j < g) (h : g ≤ xs.length), p (xs[j]'(by omega)) = false) (fun g => xs.length - g) 0 ⟨Nat.zero_le _, fun j hj => absurd hj (by omega)⟩ (Sub.cons rfl (Sub.nil)) (fun i hg => ?_)
  obtain ⟨hg1, hg2⟩ := hg
  refine AWp.seq ?_
  refine AWp.region ?_
  refine AList.c 9 rfl rfl rfl (OpJ.lss rfl rfl rfl) ?_
  refine AList.nil ?_
  refine AWp.seq ?_
  refine AWp.cond _ rfl (fun hc0 => ?_) (fun hc0 => ?_)
  · skip
    refine AWp.skip ?_
    refine AWp.seq ?_
    refine AWp.block ?_
    refine AWp.seq ?_
    refine AWp.region ?_
    refine AList.c 10 rfl rfl rfl (OpJ.move rfl rfl) ?_
    refine AList.c 5 rfl rfl rfl (OpJ.assign rfl rfl) ?_
    refine AList.nil ?_
    refine AWp.seq ?_
    refine AWp.region ?_
    refine AList.c 11 rfl rfl rfl (OpJ.move rfl rfl) ?_
    refine AList.c 12 rfl rfl rfl (OpJ.move rfl rfl) ?_
    refine AList.c 13 rfl rfl rfl (OpJ.move rfl rfl) ?_
    refine AList.c 14 rfl rfl rfl (OpJ.indexEl rfl rfl rfl sl25 el25 rfl (fun _ => rfl) (by decide) ?_) ?_
    · simp at hc0; omega
    refine AList.c 15 rfl rfl rfl (OpJ.load rfl rfl ty33 rfl) ?_
    refine AList.c 16 rfl rfl rfl (OpJ.callF (hf _ (List.getElem_mem _)) rfl rfl rfl) ?_
    refine AList.nil ?_
    refine AWp.cond _ rfl (fun hc1 => ?_) (fun hc1 => ?_)
    · skip
      refine AWp.seq ?_
      refine AWp.region ?_
      refine AList.c 17 rfl rfl rfl (OpJ.move rfl rfl) ?_
      refine AList.c 4 rfl rfl rfl (OpJ.assign rfl rfl) ?_
      refine AList.nil ?_
      refine AWp.ret ?_
      refine Fin.oneE rfl rfl ?_
      rw [idxF_at p xs i (by simp at hc0; omega) (fun j hj => hg2 j hj hg1) hc1]
    · skip
      refine AWp.skip ?_
      refine AWp.region ?_
      refine AList.c 18 rfl rfl rfl (OpJ.add rfl rfl rfl (i64ok ?_)) ?_
      · simp at hc0; omega
      refine AList.c 8 rfl rfl rfl (OpJ.move rfl rfl) ?_
      refine AList.nil ?_
      refine ⟨i + 1, ?_, ?_, ?_⟩
      · refine ⟨by simp at hc0; omega, fun j hj h => ?_⟩
        rcases Nat.lt_succ_iff_lt_or_eq.1 hj with h1 | rfl
        · exact hg2 j h1 hg1
        · exact hc1
      · simp at hc0; omega
      exact To.done [] rfl (by repeat (first | exact Sub.nil | refine Sub.cons rfl ?_)) rfl
  · skip
    refine AWp.exit ?_
    refine AWp.seq ?_
    refine AWp.region ?_
    refine AList.c 4 rfl rfl rfl (OpJ.assign rfl rfl) ?_
    refine AList.nil ?_
    refine AWp.ret ?_
    refine Fin.oneE rfl rfl ?_
    rw [idxF_none p xs (fun j hj => hg2 j (by simp at hc0; omega) hg1)]
theorem containsLk_ok (xs : List Lk) (f : PV) (p : Lk → Bool) (hx : xs.length ≤ bigN) (hf : ∀ x ∈ xs, FPure Tryd.prog f [.agg x.cells] (.bool (p x))) : Pure Tryd.prog 40 [.is (xs.flatMap Lk.cells) xs.length, f] (.bool (xs.any p)) := by
  refine Pure.start (N := 9) Tryd.func40 rfl rfl (Nat.le_of_ble_eq_true rfl) ?_
  refine AWp.seq ?_
  refine AWp.region ?_
  refine AList.c 4 rfl rfl rfl (OpJ.assign rfl rfl) ?_
  refine AList.nil ?_
  refine AWp.seq ?_
  refine AWp.region ?_
  refine AList.c 5 rfl rfl rfl (OpJ.move rfl rfl) ?_
  refine AList.c 6 rfl rfl rfl (OpJ.move rfl rfl) ?_
  refine AList.c 7 rfl rfl rfl (OpJ.callP (indexLk_ok _ _ p ?_ ?_) rfl rfl rfl rfl rf67) ?_
  · exact hx
  · exact hf
  refine AList.c 8 rfl rfl rfl (OpJ.geq rfl rfl rfl) ?_
  refine AList.c 4 rfl rfl rfl (OpJ.assign rfl rfl) ?_
  refine AList.nil ?_
  refine AWp.ret ?_
  refine Fin.oneE rfl rfl ?_
  rw [idxF_any]
theorem xhas_ok (s n : Nat) (hs : s < 256) : Pure Tryd.prog 79 [.int .i64 (s : Int), .int .i64 (n : Int)] (.bool (s.testBit n)) := by
  have hle := Nat.div_le_self s (2 ^ n)
  refine Pure.start (N := 10) Tryd.func79 rfl rfl (Nat.le_of_ble_eq_true rfl) ?_
  refine AWp.seq ?_
  refine AWp.region ?_
  refine AList.c 4 rfl rfl rfl (OpJ.assign rfl rfl) ?_
  refine AList.nil ?_
  refine AWp.seq ?_
  refine AWp.region ?_
  refine AList.c 5 rfl rfl rfl (OpJ.move rfl rfl) ?_
  refine AList.c 6 rfl rfl rfl (OpJ.move rfl rfl) ?_
  refine AList.c 7 rfl rfl rfl (OpJ.shrN s n rfl rfl rfl (by first | decide | (show _ ≤ (9223372036854775807 : Int); omega) | (show _ ≤ (4294967295 : Int); omega) | (show _ ≤ (18446744073709551615 : Int); omega))) ?_
  refine AList.c 8 rfl rfl rfl (OpJ.andN (s / 2 ^ n) 1 rfl rfl rfl (by first | (show _ ≤ (9223372036854775807 : Int); omega) | (show _ ≤ (4294967295 : Int); omega) | (show _ ≤ (18446744073709551615 : Int); omega)) (by first | decide | (show _ ≤ (9223372036854775807 : Int); omega) | (show _ ≤ (4294967295 : Int); omega) | (show _ ≤ (18446744073709551615 : Int); omega))) ?_
  refine AList.c 9 rfl rfl rfl (OpJ.eql rfl rfl rfl) ?_
  refine AList.c 4 rfl rfl rfl (OpJ.assign rfl rfl) ?_
  refine AList.nil ?_
  refine AWp.ret ?_
  refine Fin.oneE rfl rfl ?_
  rw [Nat.testBit_eq_decide_div_mod_eq, Nat.and_one_is_mod]
  exact congrArg PV.bool (decide_eq_decide.2 (by omega))
theorem oc64_ok (x : Nat) (hx : x < 256) : Pure Tryd.prog 81 [.int .u64 (x : Int)] (.int .i64 ((szN x : Nat) : Int)) := by
  obtain ⟨hz, h1, h2, h3, h4, h5, h6⟩ := oc_at hx
  refine Pure.start (N := 35) Tryd.func81 rfl rfl (Nat.le_of_ble_eq_true rfl) ?_
  refine AWp.seq ?_
  refine AWp.region ?_
  refine AList.c 2 rfl rfl rfl (OpJ.assign rfl rfl) ?_
  refine AList.nil ?_
  refine AWp.seq ?_
  refine AWp.region ?_
  refine AList.c 3 rfl rfl rfl (OpJ.move rfl rfl) ?_
  refine AList.c 4 rfl rfl rfl (OpJ.shrN x 1 rfl rfl rfl (by first | decide | (show _ ≤ (9223372036854775807 : Int); omega) | (show _ ≤ (4294967295 : Int); omega) | (show _ ≤ (18446744073709551615 : Int); omega))) ?_
  refine AList.c 5 rfl rfl rfl (OpJ.andN (x / 2 ^ 1) 6148914691236517205 rfl rfl rfl (by first | (show _ ≤ (9223372036854775807 : Int); omega) | (show _ ≤ (4294967295 : Int); omega) | (show _ ≤ (18446744073709551615 : Int); omega)) (by first | decide | (show _ ≤ (9223372036854775807 : Int); omega) | (show _ ≤ (4294967295 : Int); omega) | (show _ ≤ (18446744073709551615 : Int); omega))) ?_
  refine AList.c 6 rfl rfl rfl (OpJ.move rfl rfl) ?_
  refine AList.c 7 rfl rfl rfl (OpJ.andN x 6148914691236517205 rfl rfl rfl (by first | (show _ ≤ (9223372036854775807 : Int); omega) | (show _ ≤ (4294967295 : Int); omega) | (show _ ≤ (18446744073709551615 : Int); omega)) (by first | decide | (show _ ≤ (9223372036854775807 : Int); omega) | (show _ ≤ (4294967295 : Int); omega) | (show _ ≤ (18446744073709551615 : Int); omega))) ?_
  refine AList.c 8 rfl rfl rfl (OpJ.add (m := ((oc1 x : Nat) : Int)) rfl rfl rfl ((u64ok ?_).trans ?_)) ?_
  · have e : oc1 x = (x / 2 ^ 1 &&& 6148914691236517205) + (x &&& 6148914691236517205) := rfl; omega
  · have e : oc1 x = (x / 2 ^ 1 &&& 6148914691236517205) + (x &&& 6148914691236517205) := rfl; omega
  refine AList.c 0 rfl rfl rfl (OpJ.assign rfl rfl) ?_
  refine AList.nil ?_
  refine AWp.seq ?_
  refine AWp.region ?_
  refine AList.c 9 rfl rfl rfl (OpJ.move rfl rfl) ?_
  refine AList.c 10 rfl rfl rfl (OpJ.shrN (oc1 x) 2 rfl rfl rfl (by first | decide | (show _ ≤ (9223372036854775807 : Int); omega) | (show _ ≤ (4294967295 : Int); omega) | (show _ ≤ (18446744073709551615 : Int); omega))) ?_
  refine AList.c 11 rfl rfl rfl (OpJ.andN (oc1 x / 2 ^ 2) 3689348814741910323 rfl rfl rfl (by first | (show _ ≤ (9223372036854775807 : Int); omega) | (show _ ≤ (4294967295 : Int); omega) | (show _ ≤ (18446744073709551615 : Int); omega)) (by first | decide | (show _ ≤ (9223372036854775807 : Int); omega) | (show _ ≤ (4294967295 : Int); omega) | (show _ ≤ (18446744073709551615 : Int); omega))) ?_
  refine AList.c 12 rfl rfl rfl (OpJ.move rfl rfl) ?_
  refine AList.c 13 rfl rfl rfl (OpJ.andN (oc1 x) 3689348814741910323 rfl rfl rfl (by first | (show _ ≤ (9223372036854775807 : Int); omega) | (show _ ≤ (4294967295 : Int); omega) | (show _ ≤ (18446744073709551615 : Int); omega)) (by first | decide | (show _ ≤ (9223372036854775807 : Int); omega) | (show _ ≤ (4294967295 : Int); omega) | (show _ ≤ (18446744073709551615 : Int); omega))) ?_
  refine AList.c 14 rfl rfl rfl (OpJ.add (m := ((oc2 x : Nat) : Int)) rfl rfl rfl ((u64ok ?_).trans ?_)) ?_
  · have e : oc2 x = (oc1 x / 2 ^ 2 &&& 3689348814741910323) + (oc1 x &&& 3689348814741910323) := rfl; omega
  · have e : oc2 x = (oc1 x / 2 ^ 2 &&& 3689348814741910323) + (oc1 x &&& 3689348814741910323) := rfl; omega
  refine AList.c 0 rfl rfl rfl (OpJ.assign rfl rfl) ?_
  refine AList.nil ?_
  refine AWp.seq ?_
  refine AWp.region ?_
  refine AList.c 15 rfl rfl rfl (OpJ.move rfl rfl) ?_
  refine AList.c 16 rfl rfl rfl (OpJ.shrN (oc2 x) 4 rfl rfl rfl (by first | decide | (show _ ≤ (9223372036854775807 : Int); omega) | (show _ ≤ (4294967295 : Int); omega) | (show _ ≤ (18446744073709551615 : Int); omega))) ?_
  refine AList.c 17 rfl rfl rfl (OpJ.move rfl rfl) ?_
  refine AList.c 18 rfl rfl rfl (OpJ.add (m := ((oc2 x / 2 ^ 4 + oc2 x : Nat) : Int)) rfl rfl rfl ((u64ok ?_).trans ?_)) ?_
  · omega
  · omega
  refine AList.c 19 rfl rfl rfl (OpJ.andN (oc2 x / 2 ^ 4 + oc2 x) 1085102592571150095 rfl rfl rfl (by first | (show _ ≤ (9223372036854775807 : Int); omega) | (show _ ≤ (4294967295 : Int); omega) | (show _ ≤ (18446744073709551615 : Int); omega)) (by first | decide | (show _ ≤ (9223372036854775807 : Int); omega) | (show _ ≤ (4294967295 : Int); omega) | (show _ ≤ (18446744073709551615 : Int); omega))) ?_
  refine AList.c 0 rfl rfl rfl (OpJ.assign rfl rfl) ?_
  refine AList.nil ?_
  refine AWp.seq ?_
  refine AWp.norm [] [(0, .p (.int .u64 ((oc3 x : Nat) : Int)))] [] rfl (by repeat (first | exact Sub.nil | refine Sub.cons rfl ?_)) rfl ?_
  refine AWp.region ?_
  refine AList.c 20 rfl rfl rfl (OpJ.move rfl rfl) ?_
  refine AList.c 21 rfl rfl rfl (OpJ.move rfl rfl) ?_
  refine AList.c 22 rfl rfl rfl (OpJ.shrN (oc3 x) 8 rfl rfl rfl (by first | decide | (show _ ≤ (9223372036854775807 : Int); omega) | (show _ ≤ (4294967295 : Int); omega) | (show _ ≤ (18446744073709551615 : Int); omega))) ?_
  refine AList.c 23 rfl rfl rfl (OpJ.add (m := ((oc4 x : Nat) : Int)) rfl rfl rfl ((u64ok ?_).trans ?_)) ?_
  · have e : oc4 x = oc3 x + oc3 x / 2 ^ 8 := rfl; omega
  · have e : oc4 x = oc3 x + oc3 x / 2 ^ 8 := rfl; omega
  refine AList.c 0 rfl rfl rfl (OpJ.assign rfl rfl) ?_
  refine AList.nil ?_
  refine AWp.seq ?_
  refine AWp.region ?_
  refine AList.c 24 rfl rfl rfl (OpJ.move rfl rfl) ?_
  refine AList.c 25 rfl rfl rfl (OpJ.move rfl rfl) ?_
  refine AList.c 26 rfl rfl rfl (OpJ.shrN (oc4 x) 16 rfl rfl rfl (by first | decide | (show _ ≤ (9223372036854775807 : Int); omega) | (show _ ≤ (4294967295 : Int); omega) | (show _ ≤ (18446744073709551615 : Int); omega))) ?_
  refine AList.c 27 rfl rfl rfl (OpJ.add (m := ((oc5 x : Nat) : Int)) rfl rfl rfl ((u64ok ?_).trans ?_)) ?_
  · have e : oc5 x = oc4 x + oc4 x / 2 ^ 16 := rfl; omega
  · have e : oc5 x = oc4 x + oc4 x / 2 ^ 16 := rfl; omega
  refine AList.c 0 rfl rfl rfl (OpJ.assign rfl rfl) ?_
  refine AList.nil ?_
  refine AWp.seq ?_
  refine AWp.region ?_
  refine AList.c 28 rfl rfl rfl (OpJ.move rfl rfl) ?_
  refine AList.c 29 rfl rfl rfl (OpJ.move rfl rfl) ?_
  refine AList.c 30 rfl rfl rfl (OpJ.shrN (oc5 x) 32 rfl rfl rfl (by first | decide | (show _ ≤ (9223372036854775807 : Int); omega) | (show _ ≤ (4294967295 : Int); omega) | (show _ ≤ (18446744073709551615 : Int); omega))) ?_
  refine AList.c 31 rfl rfl rfl (OpJ.add (m := ((oc6 x : Nat) : Int)) rfl rfl rfl ((u64ok ?_).trans ?_)) ?_
  · have e : oc6 x = oc5 x + oc5 x / 2 ^ 32 := rfl; omega
  · have e : oc6 x = oc5 x + oc5 x / 2 ^ 32 := rfl; omega
  refine AList.c 0 rfl rfl rfl (OpJ.assign rfl rfl) ?_
  refine AList.nil ?_
  refine AWp.seq ?_
  refine AWp.region ?_
  refine AList.c 32 rfl rfl rfl (OpJ.move rfl rfl) ?_
  refine AList.c 33 rfl rfl rfl (OpJ.convInt rfl rfl (by rw [un166]; rfl) un3 (i64ok ?_)) ?_
  · omega
  refine AList.c 34 rfl rfl rfl (OpJ.andN (oc6 x) 127 rfl rfl rfl (by first | (show _ ≤ (9223372036854775807 : Int); omega) | (show _ ≤ (4294967295 : Int); omega) | (show _ ≤ (18446744073709551615 : Int); omega)) (by first | decide | (show _ ≤ (9223372036854775807 : Int); omega) | (show _ ≤ (4294967295 : Int); omega) | (show _ ≤ (18446744073709551615 : Int); omega))) ?_
  refine AList.c 2 rfl rfl rfl (OpJ.assign rfl rfl) ?_
  refine AList.nil ?_
  refine AWp.ret ?_
  refine Fin.oneE rfl rfl ?_
  rw [hz]
theorem oc_ok (x : Nat) (hx : x < 256) : Pure Tryd.prog 76 [.int .u64 (x : Int)] (.int .i64 ((szN x : Nat) : Int)) := by
  refine Pure.start (N := 8) Tryd.func76 rfl rfl (Nat.le_of_ble_eq_true rfl) ?_
  refine AWp.seq ?_
  refine AWp.region ?_
  refine AList.c 2 rfl rfl rfl (OpJ.assign rfl rfl) ?_
  refine AList.nil ?_
  refine AWp.seq ?_
  refine AWp.cond _ rfl (fun hc0 => ?_) (fun hc0 => ?_)
  · skip
    cases hc0
  · skip
    refine AWp.skip ?_
    refine AWp.seq ?_
    refine AWp.region ?_
    refine AList.c 6 rfl rfl rfl (OpJ.move rfl rfl) ?_
    refine AList.c 7 rfl rfl rfl (OpJ.callP (oc64_ok x hx) rfl rfl rfl rfl rf81) ?_
    refine AList.c 2 rfl rfl rfl (OpJ.assign rfl rfl) ?_
    refine AList.nil ?_
    refine AWp.ret ?_
    exact Fin.one rfl (rfl)
theorem xsize_ok (s : Nat) (hs : s < 256) : Pure Tryd.prog 78 [.int .i64 (s : Int)] (.int .i64 ((szN s : Nat) : Int)) := by
  refine Pure.start (N := 6) Tryd.func78 rfl rfl (Nat.le_of_ble_eq_true rfl) ?_
  refine AWp.seq ?_
  refine AWp.region ?_
  refine AList.c 2 rfl rfl rfl (OpJ.assign rfl rfl) ?_
  refine AList.nil ?_
  refine AWp.seq ?_
  refine AWp.region ?_
  refine AList.c 3 rfl rfl rfl (OpJ.move rfl rfl) ?_
  refine AList.c 4 rfl rfl rfl (OpJ.convInt rfl rfl (by rw [un118]; rfl) un52 (u64ok ?_)) ?_
  · omega
  refine AList.c 5 rfl rfl rfl (OpJ.callP (oc_ok s hs) rfl rfl rfl rfl rf76) ?_
  refine AList.c 2 rfl rfl rfl (OpJ.assign rfl rfl) ?_
  refine AList.nil ?_
  refine AWp.ret ?_
  exact Fin.one rfl (rfl)
theorem xbad_ok (a b r k : Nat) (ha : a < 256) (hb : b < 256) : Pure Tryd.prog 72 [.agg [.int .i64 (a : Int), .int .i64 (b : Int)], .int .i64 (r : Int), .int .i64 (k : Int)] (.bool (badB a b r k)) := by
  refine Pure.start (N := 17) Tryd.func72 rfl rfl (Nat.le_of_ble_eq_true rfl) ?_
  refine AWp.seq ?_
  refine AWp.region ?_
  refine AList.c 3 rfl rfl rfl (OpJ.boxImm rfl rfl rfl) ?_
  refine AList.c 6 rfl rfl rfl (OpJ.assign rfl rfl) ?_
  refine AList.nil ?_
  refine AWp.seq ?_
  refine AWp.region ?_
  refine AList.c 7 rfl rfl rfl (OpJ.fieldAddr rfl rfl fd120_0 rfl) ?_
  refine AList.c 8 rfl rfl rfl (OpJ.load rfl rfl ty118 rfl) ?_
  refine AList.c 9 rfl rfl rfl (OpJ.move rfl rfl) ?_
  refine AList.c 10 rfl rfl rfl (OpJ.callP (xhas_ok a r ha) rfl rfl rfl rfl rf79) ?_
  refine AList.c 11 rfl rfl rfl (OpJ.move rfl rfl) ?_
  refine AList.g 12 11 rfl rfl rfl rfl rfl rfl rfl [(3, _)] (fun h => And.intro (.inl rfl) (trivial)) (fun h => (OpJ.fieldAddr rfl rfl fd120_1 rfl)) ?_
  refine AList.g 13 11 rfl rfl rfl rfl rfl rfl rfl [(12, _)] (fun h => And.intro (.inr ⟨_, rfl, h⟩) (trivial)) (fun h => (OpJ.load rfl rfl ty118 rfl)) ?_
  refine AList.g 14 11 rfl rfl rfl rfl rfl rfl rfl [(2, _)] (fun h => And.intro (.inl rfl) (trivial)) (fun h => (OpJ.move rfl rfl)) ?_
  refine AList.g 15 11 rfl rfl rfl rfl rfl rfl rfl [(13, _), (14, _)] (fun h => And.intro (.inr ⟨_, rfl, h⟩) (And.intro (.inr ⟨_, rfl, h⟩) (trivial))) (fun h => (OpJ.callP (xhas_ok b k hb) rfl rfl rfl rfl rf79)) ?_
  refine AList.c 16 rfl rfl rfl (OpJ.or_ rfl rfl rfl ?_) ?_
  · first | (intro h; rw [h]; rfl) | (intro h; simp_all)
  refine AList.c 6 rfl rfl rfl (OpJ.assign rfl rfl) ?_
  refine AList.nil ?_
  refine AWp.ret ?_
  exact Fin.one rfl (rfl)
theorem many_ok (c : Crt) (a b : Nat) (hc : crB c = true) (ha : a < 256) (hb : b < 256) : Pure Tryd.prog 70 [.agg [.int .i64 (a : Int), .int .i64 (b : Int)], crV c] (.int .i64 (manyN c a b)) := by
  obtain ⟨hR, hC, _⟩ := crB_of hc
  refine Pure.start (N := 34) Tryd.func70 rfl rfl (Nat.le_of_ble_eq_true rfl) ?_
  refine AWp.seq ?_
  refine AWp.region ?_
  refine AList.c 2 rfl rfl rfl (OpJ.boxImm rfl rfl rfl) ?_
  refine AList.c 3 rfl rfl rfl (OpJ.boxImm rfl rfl rfl) ?_
  refine AList.c 4 rfl rfl rfl (OpJ.assign rfl rfl) ?_
  refine AList.nil ?_
  refine AWp.seq ?_
  refine AWp.seq ?_
  refine AWp.region ?_
  refine AList.c 7 rfl rfl rfl (OpJ.fieldAddr rfl rfl fd24_0 rfl) ?_
  refine AList.c 8 rfl rfl rfl (OpJ.load rfl rfl ty22 rfl) ?_
  refine AList.c 9 rfl rfl rfl (OpJ.lenSlice rfl rfl sl22 rfl) ?_
  refine AList.c 10 rfl rfl rfl (OpJ.move rfl rfl) ?_
  refine AList.nil ?_
  refine AWp.block ?_
  refine AWp.loopKL [2, 3, 8, 9, 33] (fun g => [(10, .p (.int .i64 ((g : Nat) : Int))), (4, .p (.int .i64 (manyF c a b g)))]) (fun g => g ≤ c.rows.length) (fun g => c.rows.length - g) 0 (Nat.zero_le _) (Sub.cons rfl (Sub.cons rfl (Sub.nil))) (fun i hg => ?_)
  refine AWp.seq ?_
  refine AWp.region ?_
  refine AList.c 11 rfl rfl rfl (OpJ.lss rfl rfl rfl) ?_
  refine AList.nil ?_
  refine AWp.seq ?_
  refine AWp.cond _ rfl (fun hc0 => ?_) (fun hc0 => ?_)
  · skip
    have hk0 : i < c.rows.length := by have h := of_decide_eq_true hc0; omega
    have hB := manyF_B hc a b i (by omega)
    obtain ⟨hm1, hm2⟩ := many_step hc (b := b) hk0
    refine AWp.skip ?_
    refine AWp.seq ?_
    refine AWp.block ?_
    refine AWp.seq ?_
    refine AWp.region ?_
    refine AList.c 12 rfl rfl rfl (OpJ.move rfl rfl) ?_
    refine AList.c 13 rfl rfl rfl (OpJ.indexG (g := nt c.rows) nt_get rfl rfl rfl sl22 el22 rfl (fun _ => rfl) (by decide) hk0) ?_
    refine AList.c 14 rfl rfl rfl (OpJ.load (v := .p (.int .i64 (nt c.rows i))) rfl rfl ty3 rfl) ?_
    refine AList.c 5 rfl rfl rfl (OpJ.assign rfl rfl) ?_
    refine AList.c 6 rfl rfl rfl (OpJ.assign rfl rfl) ?_
    refine AList.nil ?_
    refine AWp.seq ?_
    refine AWp.region ?_
    refine AList.c 15 rfl rfl rfl (OpJ.fieldAddr rfl rfl fd120_0 rfl) ?_
    refine AList.c 16 rfl rfl rfl (OpJ.load (v := .p (.int .i64 (a : Int))) rfl rfl ty118 rfl) ?_
    refine AList.c 17 rfl rfl rfl (OpJ.move rfl rfl) ?_
    refine AList.c 18 rfl rfl rfl (OpJ.callP (xhas_ok a i ha) rfl rfl rfl rfl rf79) ?_
    refine AList.nil ?_
    refine AWp.cond _ rfl (fun hc1 => ?_) (fun hc1 => ?_)
    · skip
      have hst : manyF c a b (i + 1) = manyF c a b i + nt c.rows i * c.cols := by rw [manyF, if_pos hc1]
      refine AWp.region ?_
      refine AList.c 19 rfl rfl rfl (OpJ.move rfl rfl) ?_
      refine AList.c 20 rfl rfl rfl (OpJ.move rfl rfl) ?_
      refine AList.c 21 rfl rfl rfl (OpJ.fieldAddr rfl rfl fd24_1 rfl) ?_
      refine AList.c 22 rfl rfl rfl (OpJ.load (v := .p (.int .i64 c.cols)) rfl rfl ty3 rfl) ?_
      refine AList.c 23 rfl rfl rfl (OpJ.mul rfl rfl rfl (i64ok ?_)) ?_
      · omega
      refine AList.c 24 rfl rfl rfl (OpJ.add rfl rfl rfl (i64ok ?_)) ?_
      · omega
      refine AList.c 4 rfl rfl rfl (OpJ.assign rfl rfl) ?_
      refine AList.nil ?_
      refine AWp.region ?_
      refine AList.c 32 rfl rfl rfl (OpJ.add rfl rfl rfl (i64ok ?_)) ?_
      · omega
      refine AList.c 10 rfl rfl rfl (OpJ.move rfl rfl) ?_
      refine AList.nil ?_
      refine ⟨i + 1, ?_, ?_, ?_⟩
      · omega
      · omega
      refine To.done [] rfl (Sub.cons rfl (Sub.cons (by rw [hst]; rfl) (by repeat (first | exact Sub.nil | refine Sub.cons rfl ?_)))) rfl
    · skip
      have hst : manyF c a b (i + 1) = manyF c a b i + nt c.rows i * (szN b : Int) := by rw [manyF, if_neg (by rw [hc1]; decide)]
      refine AWp.region ?_
      refine AList.c 25 rfl rfl rfl (OpJ.move rfl rfl) ?_
      refine AList.c 26 rfl rfl rfl (OpJ.move rfl rfl) ?_
      refine AList.c 27 rfl rfl rfl (OpJ.fieldAddr rfl rfl fd120_1 rfl) ?_
      refine AList.c 28 rfl rfl rfl (OpJ.load (v := .p (.int .i64 (b : Int))) rfl rfl ty118 rfl) ?_
      refine AList.c 29 rfl rfl rfl (OpJ.callP (xsize_ok b hb) rfl rfl rfl rfl rf78) ?_
      refine AList.c 30 rfl rfl rfl (OpJ.mul rfl rfl rfl (i64ok ?_)) ?_
      · omega
      refine AList.c 31 rfl rfl rfl (OpJ.add rfl rfl rfl (i64ok ?_)) ?_
      · omega
      refine AList.c 4 rfl rfl rfl (OpJ.assign rfl rfl) ?_
      refine AList.nil ?_
      refine AWp.region ?_
      refine AList.c 32 rfl rfl rfl (OpJ.add rfl rfl rfl (i64ok ?_)) ?_
      · omega
      refine AList.c 10 rfl rfl rfl (OpJ.move rfl rfl) ?_
      refine AList.nil ?_
      refine ⟨i + 1, ?_, ?_, ?_⟩
      · omega
      · omega
      refine To.done [] rfl (Sub.cons rfl (Sub.cons (by rw [hst]; rfl) (by repeat (first | exact Sub.nil | refine Sub.cons rfl ?_)))) rfl
  · skip
    obtain rfl : i = c.rows.length := by have h := of_decide_eq_false hc0; omega
    refine AWp.exit ?_
    refine AWp.seq ?_
    refine AWp.region ?_
    refine AList.c 33 rfl rfl rfl (OpJ.move rfl rfl) ?_
    refine AList.c 4 rfl rfl rfl (OpJ.assign rfl rfl) ?_
    refine AList.nil ?_
    refine AWp.ret ?_
    exact Fin.oneE rfl rfl rfl
end Go.Proofs.YtofenmailjdehaaDoor
