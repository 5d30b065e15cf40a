/-
  Chapter 14: more facts on types and functions, by the kernel.
  The reference: figures, numbers, items.
  The reference: packs.
  The reference: what packs are read.
  The reference: packs are read.
-/
import Derived.Test.YtplofbjppcbchaaDoorMzVF
import Derived.Test.YtplofbjppcbchaaDoorFaVC
import Derived.Test.YtplofbjppcbchaaDoorMzVE
import Derived.Test.YtplofbjppcbchaaDoorMzVQ
section
set_option maxRecDepth 100000
namespace Go.Proofs.YtplofbjppcbchaaDoor
open Go.AF
theorem by9 : byI Tryd.prog 9 = some 16 := by kernel_rfl
theorem el90 : elI Tryd.prog 90 = some 1 := by kernel_rfl
theorem rf35 : realFn Tryd.prog 35 = true := by kernel_rfl
theorem rf36 : realFn Tryd.prog 36 = true := by kernel_rfl
theorem rf37 : realFn Tryd.prog 37 = true := by kernel_rfl
theorem rf69 : realFn Tryd.prog 69 = true := by kernel_rfl
theorem rf70 : realFn Tryd.prog 70 = true := by kernel_rfl
theorem rf71 : realFn Tryd.prog 71 = true := by kernel_rfl
theorem rf72 : realFn Tryd.prog 72 = true := by kernel_rfl
theorem rf73 : realFn Tryd.prog 73 = true := by kernel_rfl
theorem rf84 : realFn Tryd.prog 84 = true := by kernel_rfl
theorem sl90 : isSl Tryd.prog 90 = true := by kernel_rfl
theorem slz90 : slI Tryd.prog 90 = some (9, [.str ⟨#[]⟩]) := by kernel_rfl
end Go.Proofs.YtplofbjppcbchaaDoor
end

section
set_option linter.unusedVariables false
set_option maxRecDepth 100000
set_option maxHeartbeats 4000000
set_option linter.unusedSimpArgs false
namespace Go.Proofs.YtplofbjppcbchaaDoor
open Go.AF
theorem figure_ok (s : Bs) : Pure Tryd.prog 69 [.str (sB s)] (.tuple [.int .i64 (((figP s).1 : Nat) : Int), .int .i64 (((figP s).2 : Nat) : Int)]) := by
  have hdl := digN_le s
  refine Pure.start (N := 36) Tryd.func69 rfl rfl (Nat.le_of_ble_eq_true rfl) ?_
  refine AWp.seq ?_
  refine AWp.region ?_
  refine AList.c 2 rfl rfl rfl (OpJ.assign rfl rfl) ?_
  refine AList.c 3 rfl rfl rfl (OpJ.assign rfl rfl) ?_
  refine AList.nil ?_
  refine AWp.seq ?_
  refine AWp.region ?_
  refine AList.c 4 rfl rfl rfl (OpJ.assign rfl rfl) ?_
  refine AList.c 5 rfl rfl rfl (OpJ.assign rfl rfl) ?_
  refine AList.nil ?_
  refine AWp.seq ?_
  refine AWp.block ?_
  refine AWp.loopHL [0, 34, 35] (fun g => [(4, .p (.int .i64 ((valD (s.take g) : Nat) : Int))), (5, .p (.int .i64 ((g : Nat) : Int)))]) (fun g => []) (fun g => g ≤ digN s ∧ g ≤ 9) (fun g => digN s - g) 0 ⟨Nat.zero_le _, Nat.zero_le _⟩ (To.sub (Sub.chk (Sub.cons rfl (Sub.cons rfl (Sub.nil))))) (fun i ⟨hi, h9⟩ => ?_)
  refine AWp.seq ?_
  refine AWp.seq ?_
  refine AWp.region ?_
  refine AList.c 6 rfl rfl rfl (OpJ.move rfl rfl) ?_
  refine AList.c 7 rfl rfl rfl (OpJ.move rfl rfl) ?_
  refine AList.c 8 rfl rfl rfl (OpJ.lenStr rfl rfl un9) ?_
  refine AList.c 9 rfl rfl rfl (OpJ.lss rfl rfl rfl) ?_
  refine AList.c 10 rfl rfl rfl (OpJ.move rfl rfl) ?_
  refine AList.g 11 10 rfl rfl rfl rfl rfl rfl rfl [(0, _)] (fun h => And.intro (.inl rfl) (trivial)) (fun h => (OpJ.move rfl rfl)) ?_
  refine AList.g 12 10 rfl rfl rfl rfl rfl rfl rfl [(5, _)] (fun h => And.intro (.inl rfl) (trivial)) (fun h => (OpJ.move rfl rfl)) ?_
  refine AList.g 13 10 rfl rfl rfl rfl rfl rfl rfl [(11, _), (12, _)] (fun h => And.intro (.inr ⟨_, rfl, h⟩) (And.intro (.inr ⟨_, rfl, h⟩) (trivial))) (fun h => (OpJ.strIx s i (gt 0 s i) rfl rfl rfl st9 (by have h2 := of_decide_eq_true (eq_of_beq h); rw [sB_size] at h2; rw [List.getElem?_eq_getElem (by omega), gt_get 0 i (by omega)]))) ?_
  refine AList.g 14 10 rfl rfl rfl rfl rfl rfl rfl [(13, _)] (fun h => And.intro (.inr ⟨_, rfl, h⟩) (trivial)) (fun h => (OpJ.geq rfl rfl rfl)) ?_
  refine AList.c 15 rfl rfl rfl (OpJ.and_ rfl rfl rfl ?_) ?_
  · first | (intro h; rw [h]; rfl) | (intro h; simp_all)
  refine AList.c 16 rfl rfl rfl (OpJ.move rfl rfl) ?_
  refine AList.g 17 16 rfl rfl rfl rfl rfl rfl rfl [(0, _)] (fun h => And.intro (.inl rfl) (trivial)) (fun h => (OpJ.move rfl rfl)) ?_
  refine AList.g 18 16 rfl rfl rfl rfl rfl rfl rfl [(5, _)] (fun h => And.intro (.inl rfl) (trivial)) (fun h => (OpJ.move rfl rfl)) ?_
  refine AList.g 19 16 rfl rfl rfl rfl rfl rfl rfl [(17, _), (18, _)] (fun h => And.intro (.inr ⟨_, rfl, h⟩) (And.intro (.inr ⟨_, rfl, h⟩) (trivial))) (fun h => (OpJ.strIx s i (gt 0 s i) rfl rfl rfl st9 (by have h2 := eq_of_beq h; simp only [Bool.and_eq_true, decide_eq_true_eq] at h2; have h3 := h2.1; rw [sB_size] at h3; rw [List.getElem?_eq_getElem (by omega), gt_get 0 i (by omega)]))) ?_
  refine AList.g 20 16 rfl rfl rfl rfl rfl rfl rfl [(19, _)] (fun h => And.intro (.inr ⟨_, rfl, h⟩) (trivial)) (fun h => (OpJ.leq rfl rfl rfl)) ?_
  refine AList.c 21 rfl rfl rfl (OpJ.and_ rfl rfl rfl ?_) ?_
  · first | (intro h; rw [h]; rfl) | (intro h; simp_all)
  refine AList.nil ?_
  refine AWp.cond _ rfl (fun hc0 => ?_) (fun hc0 => ?_)
  · skip
    obtain ⟨hk, hd⟩ := (fig_c (s := s) (i := i) hc0).1 rfl
    have hid := dig_lt hi hk hd
    have hv := val_lt2 hi (by omega)
    have hv2 := val_lt2 (s := s) (i := i + 1) hid (by omega)
    have hvs := val_st hk
    have hdd := hd
    simp only [digB, Bool.and_eq_true, decide_eq_true_eq] at hdd
    refine AWp.skip ?_
    refine AWp.block ?_
    refine AWp.seq ?_
    refine AWp.seq ?_
    refine AWp.region ?_
    refine AList.c 22 rfl rfl rfl (OpJ.move rfl rfl) ?_
    refine AList.c 23 rfl rfl rfl (OpJ.eql rfl rfl rfl) ?_
    refine AList.nil ?_
    refine AWp.cond _ rfl (fun hc1 => ?_) (fun hc1 => ?_)
    · skip
      have hi9 : i = 9 := by have h := of_decide_eq_true hc1; omega
      have hno := fig_no (s := s) (by omega)
      refine AWp.seq ?_
      refine AWp.region ?_
      refine AList.c 2 rfl rfl rfl (OpJ.assign rfl rfl) ?_
      refine AList.c 3 rfl rfl rfl (OpJ.assign rfl rfl) ?_
      refine AList.nil ?_
      refine AWp.ret ?_
      refine Fin.manyE (xs := [.int .i64 0, .int .i64 0]) rfl ⟨_, _, rfl, rfl, ⟨_, _, rfl, rfl, rfl⟩⟩ rfl ?_
      rw [hno]
      rfl
    · skip
      have hi9 : i ≠ 9 := by have h := of_decide_eq_false hc1; omega
      refine AWp.skip ?_
      refine AWp.seq ?_
      refine AWp.region ?_
      refine AList.c 24 rfl rfl rfl (OpJ.move rfl rfl) ?_
      refine AList.c 25 rfl rfl rfl (OpJ.mul (m := ((10 * valD (s.take i) : Nat) : Int)) rfl rfl rfl ((i64ok ?_).trans ?_)) ?_
      · omega
      · omega
      refine AList.c 26 rfl rfl rfl (OpJ.move rfl rfl) ?_
      refine AList.c 27 rfl rfl rfl (OpJ.move rfl rfl) ?_
      refine AList.c 28 rfl rfl rfl (OpJ.strIx s i (gt 0 s i) rfl rfl rfl st9 (by rw [List.getElem?_eq_getElem hk, gt_get 0 i hk])) ?_
      refine AList.c 29 rfl rfl rfl (OpJ.sub_ (m := (((gt 0 s i).toNat - 48 : Nat) : Int)) rfl rfl rfl ((u8ok ?_).trans ?_)) ?_
      · omega
      · omega
      refine AList.c 30 rfl rfl rfl (OpJ.convInt rfl rfl (by rw [un5]; rfl) un3 (i64ok ?_)) ?_
      · omega
      refine AList.c 31 rfl rfl rfl (OpJ.add (m := ((valD (s.take (i + 1)) : Nat) : Int)) rfl rfl rfl ((i64ok ?_).trans ?_)) ?_
      · omega
      · omega
      refine AList.c 4 rfl rfl rfl (OpJ.assign rfl rfl) ?_
      refine AList.nil ?_
      refine AWp.region ?_
      refine AList.c 32 rfl rfl rfl (OpJ.move rfl rfl) ?_
      refine AList.c 33 rfl rfl rfl (OpJ.add (m := ((i + 1 : Nat) : Int)) rfl rfl rfl ((i64ok ?_).trans ?_)) ?_
      · omega
      · omega
      refine AList.c 5 rfl rfl rfl (OpJ.assign rfl rfl) ?_
      refine AList.nil ?_
      refine ⟨i + 1, ?_, ?_, ?_⟩
      · exact ⟨hid, by omega⟩
      · omega
      exact To.done [] rfl (by repeat (first | exact Sub.nil | refine Sub.cons rfl ?_)) rfl
  · skip
    have hn := dig_eq hi ((fig_c (s := s) (i := i) hc0).2 rfl)
    refine AWp.exit ?_
    refine AWp.seq ?_
    refine AWp.region ?_
    refine AList.c 34 rfl rfl rfl (OpJ.move rfl rfl) ?_
    refine AList.c 35 rfl rfl rfl (OpJ.move rfl rfl) ?_
    refine AList.c 2 rfl rfl rfl (OpJ.assign rfl rfl) ?_
    refine AList.c 3 rfl rfl rfl (OpJ.assign rfl rfl) ?_
    refine AList.nil ?_
    refine AWp.ret ?_
    refine Fin.manyE (xs := [.int .i64 ((valD (s.take i) : Nat) : Int), .int .i64 ((i : Nat) : Int)]) rfl ⟨_, _, rfl, rfl, ⟨_, _, rfl, rfl, rfl⟩⟩ rfl ?_
    rw [fig_yes (by omega), hn]
theorem rtext_nat (n : Nat) : n < 10000000000000 → Pure Tryd.prog 72 [.int .i64 (n : Int)] (.str (sB (Lib.decDigits n))) := by
  refine Nat.strongRecOn n (fun n ih hn => ?_)
  have hdl := dec_len13 (n / 10) (by omega)
  refine Pure.start (N := 18) Tryd.func72 rfl rfl (Nat.le_of_ble_eq_true rfl) ?_
  refine AWp.seq ?_
  refine AWp.region ?_
  refine AList.c 2 rfl rfl rfl (OpJ.assign rfl rfl) ?_
  refine AList.nil ?_
  refine AWp.seq ?_
  refine AWp.seq ?_
  refine AWp.region ?_
  refine AList.c 3 rfl rfl rfl (OpJ.move rfl rfl) ?_
  refine AList.c 4 rfl rfl rfl (OpJ.lss rfl rfl rfl) ?_
  refine AList.nil ?_
  refine AWp.cond _ rfl (fun hc0 => ?_) (fun hc0 => ?_)
  · skip
    have hs : n < 10 := by have h := of_decide_eq_true hc0; omega
    refine AWp.seq ?_
    refine AWp.region ?_
    refine AList.c 5 rfl rfl rfl (OpJ.move rfl rfl) ?_
    refine AList.c 6 rfl rfl rfl (OpJ.add (m := ((48 + n : Nat) : Int)) rfl rfl rfl ((i64ok ?_).trans ?_)) ?_
    · omega
    · omega
    refine AList.c 7 rfl rfl rfl (OpJ.convInt rfl rfl (by rw [un3]; rfl) un21 (i32ok ?_)) ?_
    · omega
    refine AList.c 8 rfl rfl rfl (OpJ.runeStr (48 + n) rfl rfl (by rw [un21]; rfl) st9 (by omega)) ?_
    refine AList.c 2 rfl rfl rfl (OpJ.assign rfl rfl) ?_
    refine AList.nil ?_
    refine AWp.ret ?_
    refine Fin.oneE rfl rfl ?_
    rw [dec_small hs]
  · skip
    have hs : 10 ≤ n := by have h := of_decide_eq_false hc0; omega
    refine AWp.skip ?_
    refine AWp.seq ?_
    refine AWp.region ?_
    refine AList.c 9 rfl rfl rfl (OpJ.move rfl rfl) ?_
    refine AList.c 10 rfl rfl rfl (OpJ.quo (m := ((n / 10 : Nat) : Int)) rfl rfl rfl (by decide) ((i64ok (by show _ ≤ ((n / 10 : Nat) : Int) ∧ ((n / 10 : Nat) : Int) ≤ _; omega)).trans rfl)) ?_
    refine AList.c 11 rfl rfl rfl (OpJ.callP (ih (n / 10) (by omega) (by omega)) rfl rfl rfl rfl rf72) ?_
    refine AList.c 12 rfl rfl rfl (OpJ.move rfl rfl) ?_
    refine AList.c 13 rfl rfl rfl (OpJ.rem (m := ((n % 10 : Nat) : Int)) rfl rfl rfl ?_ ?_) ?_
    · decide
    · rfl
    refine AList.c 14 rfl rfl rfl (OpJ.add (m := ((48 + n % 10 : Nat) : Int)) rfl rfl rfl ((i64ok ?_).trans ?_)) ?_
    · omega
    · omega
    refine AList.c 15 rfl rfl rfl (OpJ.convInt rfl rfl (by rw [un3]; rfl) un21 (i32ok ?_)) ?_
    · omega
    refine AList.c 16 rfl rfl rfl (OpJ.runeStr (48 + n % 10) rfl rfl (by rw [un21]; rfl) st9 (by omega)) ?_
    refine AList.c 17 rfl rfl rfl (OpJ.strAdd _ _ rfl rfl rfl ?_) ?_
    · show _ + 1 < _; omega
    refine AList.c 2 rfl rfl rfl (OpJ.assign rfl rfl) ?_
    refine AList.nil ?_
    refine AWp.ret ?_
    refine Fin.oneE rfl rfl ?_
    rw [dec_big hs]
theorem rtext_ok (n : Int) (h0 : 0 ≤ n) (h1 : n < 10000000000000) : Pure Tryd.prog 72 [.int .i64 n] (.str (sB (Lib.itoa n))) := by
  obtain ⟨u, rfl⟩ := Int.eq_ofNat_of_zero_le h0
  rw [itoa_cast]
  exact rtext_nat u (by omega)
theorem ritems_nat (l : List Int) (hl : l.length ≤ 48) (hc : ∀ c ∈ l, 0 ≤ c ∧ c ≤ 99) (m : Nat) : ∀ i, i ≤ l.length → l.length - i = m → Pure Tryd.prog 73 [intsV l, .int .i64 (i : Int)] (.str (sB (itmsT (l.drop i)))) := by
  refine Nat.strongRecOn m (fun m ih i hi hm => ?_)
  refine Pure.start (N := 115) Tryd.func73 rfl rfl (Nat.le_of_ble_eq_true rfl) ?_
  refine AWp.seq ?_
  refine AWp.region ?_
  refine AList.c 4 rfl rfl rfl (OpJ.assign rfl rfl) ?_
  refine AList.nil ?_
  refine AWp.seq ?_
  refine AWp.seq ?_
  refine AWp.region ?_
  refine AList.c 8 rfl rfl rfl (OpJ.move rfl rfl) ?_
  refine AList.c 9 rfl rfl rfl (OpJ.move rfl rfl) ?_
  refine AList.c 10 rfl rfl rfl (OpJ.lenSlice rfl rfl sl34 rfl) ?_
  refine AList.c 11 rfl rfl rfl (OpJ.eql rfl rfl rfl) ?_
  refine AList.nil ?_
  refine AWp.cond _ rfl (fun hc0 => ?_) (fun hc0 => ?_)
  · skip
    have he : i = l.length := by have h := of_decide_eq_true hc0; omega
    refine AWp.seq ?_
    refine AWp.region ?_
    refine AList.c 4 rfl rfl rfl (OpJ.assign rfl rfl) ?_
    refine AList.nil ?_
    refine AWp.ret ?_
    refine Fin.oneE rfl rfl ?_
    rw [itms_end he]
    rfl
  · skip
    have hil : i < l.length := by have h := of_decide_eq_false hc0; omega
    obtain ⟨hv0, hv1⟩ := hc _ (gt_mem 0 hil)
    have hT0 := itoa_len hv0 (show gt 0 l i ≤ 1099511627776 by omega)
    refine AWp.skip ?_
    refine AWp.seq ?_
    refine AWp.region ?_
    refine AList.c 12 rfl rfl rfl (OpJ.move rfl rfl) ?_
    refine AList.c 13 rfl rfl rfl (OpJ.move rfl rfl) ?_
    refine AList.c 14 rfl rfl rfl (OpJ.indexG (g := gt 0 l) (gt_get _) rfl rfl rfl sl34 el34 rfl (fun _ => rfl) (by decide) hil) ?_
    refine AList.c 15 rfl rfl rfl (OpJ.load (v := .p (.int .i64 (gt 0 l i))) rfl rfl ty3 rfl) ?_
    refine AList.c 5 rfl rfl rfl (OpJ.assign rfl rfl) ?_
    refine AList.nil ?_
    refine AWp.seq ?_
    refine AWp.region ?_
    refine AList.c 16 rfl rfl rfl (OpJ.move rfl rfl) ?_
    refine AList.c 6 rfl rfl rfl (OpJ.assign rfl rfl) ?_
    refine AList.nil ?_
    refine AWp.seq ?_
    refine AWp.block ?_
    refine AWp.loopHL [0, 1, 4, 5, 7, 31, 32, 33, 34, 35, 36, 37, 38, 39, 40, 41, 42, 43, 44, 45, 46, 47, 48, 49, 50, 51, 52, 53, 54, 55, 56, 57, 58, 59, 60, 61, 62, 63, 64, 65, 66, 67, 68, 69, 70, 71, 72, 73, 74, 75, 76, 77, 78, 79, 80, 81, 82, 83, 84, 85, 86, 87, 88, 89, 90, 91, 92, 93, 94, 95, 96, 97, 98, 99, 100, 101, 102, 103, 104, 105, 106, 107, 108, 109, 110, 111, 112, 113, 114] (fun g => [(6, .p (.int .i64 ((g : Nat) : Int)))]) (fun g => []) (fun g => i ≤ g ∧ g ≤ l.length ∧ ∀ j, i ≤ j → j < g → gt 0 l j = gt 0 l i) (fun g => l.length - g) i ⟨Nat.le_refl _, hi, fun j a b => absurd b (by omega)⟩ (To.sub (Sub.chk (Sub.cons rfl (Sub.nil)))) (fun g ⟨hg1, hg2, hg3⟩ => ?_)
    refine AWp.seq ?_
    refine AWp.seq ?_
    refine AWp.region ?_
    refine AList.c 17 rfl rfl rfl (OpJ.move rfl rfl) ?_
    refine AList.c 18 rfl rfl rfl (OpJ.move rfl rfl) ?_
    refine AList.c 19 rfl rfl rfl (OpJ.lenSlice rfl rfl sl34 rfl) ?_
    refine AList.c 20 rfl rfl rfl (OpJ.lss rfl rfl rfl) ?_
    refine AList.c 21 rfl rfl rfl (OpJ.move rfl rfl) ?_
    refine AList.g 22 21 rfl rfl rfl rfl rfl rfl rfl [(0, _)] (fun h => And.intro (.inl rfl) (trivial)) (fun h => (OpJ.move rfl rfl)) ?_
    refine AList.g 23 21 rfl rfl rfl rfl rfl rfl rfl [(6, _)] (fun h => And.intro (.inl rfl) (trivial)) (fun h => (OpJ.move rfl rfl)) ?_
    refine AList.g 24 21 rfl rfl rfl rfl rfl rfl rfl [(22, _), (23, _)] (fun h => And.intro (.inr ⟨_, rfl, h⟩) (And.intro (.inr ⟨_, rfl, h⟩) (trivial))) (fun h => (OpJ.indexG (g := gt 0 l) (gt_get _) rfl rfl rfl sl34 el34 rfl (fun _ => rfl) (by decide) (by have h2 := of_decide_eq_true (eq_of_beq h); omega))) ?_
    refine AList.g 25 21 rfl rfl rfl rfl rfl rfl rfl [(24, _)] (fun h => And.intro (.inr ⟨_, rfl, h⟩) (trivial)) (fun h => (OpJ.load (v := .p (.int .i64 (gt 0 l g))) rfl rfl ty3 rfl)) ?_
    refine AList.g 26 21 rfl rfl rfl rfl rfl rfl rfl [(5, _)] (fun h => And.intro (.inl rfl) (trivial)) (fun h => (OpJ.move rfl rfl)) ?_
    refine AList.g 27 21 rfl rfl rfl rfl rfl rfl rfl [(25, _), (26, _)] (fun h => And.intro (.inr ⟨_, rfl, h⟩) (And.intro (.inr ⟨_, rfl, h⟩) (trivial))) (fun h => (OpJ.eql rfl rfl rfl)) ?_
    refine AList.c 28 rfl rfl rfl (OpJ.and_ rfl rfl rfl ?_) ?_
    · first | (intro h; rw [h]; rfl) | (intro h; simp_all)
    refine AList.nil ?_
    refine AWp.cond _ rfl (fun hc1 => ?_) (fun hc1 => ?_)
    · skip
      obtain ⟨hgl, hge⟩ : g < l.length ∧ gt 0 l g = gt 0 l i := by simpa using hc1
      refine AWp.skip ?_
      refine AWp.block ?_
      refine AWp.region ?_
      refine AList.c 29 rfl rfl rfl (OpJ.move rfl rfl) ?_
      refine AList.c 30 rfl rfl rfl (OpJ.add (m := ((g + 1 : Nat) : Int)) rfl rfl rfl ((i64ok ?_).trans ?_)) ?_
      · omega
      · omega
      refine AList.c 6 rfl rfl rfl (OpJ.assign rfl rfl) ?_
      refine AList.nil ?_
      refine ⟨g + 1, ?_, ?_, ?_⟩
      · refine ⟨by omega, hgl, fun j a b => ?_⟩
        rcases Nat.lt_succ_iff_lt_or_eq.1 b with h | rfl
        · exact hg3 j a h
        · exact hge
      · omega
      exact To.done [] rfl (by repeat (first | exact Sub.nil | refine Sub.cons rfl ?_)) rfl
    · skip
      have hgs : g < l.length → gt 0 l g ≠ gt 0 l i := fun h e => by simp [h, e] at hc1
      have hg0 : i < g := by rcases Nat.lt_or_ge i g with h | h; exact h; exact absurd (by rw [show g = i by omega]) (hgs (by omega))
      refine AWp.exit ?_
      refine AWp.seq ?_
      refine AWp.seq ?_
      refine AWp.region ?_
      refine AList.c 31 rfl rfl rfl (OpJ.move rfl rfl) ?_
      refine AList.c 32 rfl rfl rfl (OpJ.move rfl rfl) ?_
      refine AList.c 33 rfl rfl rfl (OpJ.sub_ (m := ((g - i : Nat) : Int)) rfl rfl rfl ((i64ok ?_).trans ?_)) ?_
      · omega
      · omega
      refine AList.c 34 rfl rfl rfl (OpJ.gtr rfl rfl rfl) ?_
      refine AList.nil ?_
      refine AWp.cond _ rfl (fun hc2 => ?_) (fun hc2 => ?_)
      · skip
        have hgg : i + 1 < g := by have h := of_decide_eq_true hc2; omega
        have hT1 := itoa_len (n := ((g - i : Nat) : Int)) (by omega) (by omega)
        have hT2 := itms_len hl hc g
        refine AWp.seq ?_
        refine AWp.region ?_
        refine AList.c 35 rfl rfl rfl (OpJ.move rfl rfl) ?_
        refine AList.c 36 rfl rfl rfl (OpJ.callP (rtext_ok _ hv0 (by omega)) rfl rfl rfl rfl rf72) ?_
        refine AList.c 37 rfl rfl rfl (OpJ.strAdd [32] _ rfl rfl rfl ?_) ?_
        · show 1 + _ < _; omega
        refine AList.c 38 rfl rfl rfl (OpJ.strAdd _ [120] rfl rfl rfl ?_) ?_
        · rw [List.length_append]; show 1 + _ + 1 < _; omega
        refine AList.c 39 rfl rfl rfl (OpJ.move rfl rfl) ?_
        refine AList.c 40 rfl rfl rfl (OpJ.move rfl rfl) ?_
        refine AList.c 41 rfl rfl rfl (OpJ.sub_ (m := ((g - i : Nat) : Int)) rfl rfl rfl ((i64ok ?_).trans ?_)) ?_
        · omega
        · omega
        refine AList.c 42 rfl rfl rfl (OpJ.callP (rtext_ok _ (by omega) (by omega)) rfl rfl rfl rfl rf72) ?_
        refine AList.c 43 rfl rfl rfl (OpJ.strAdd _ _ rfl rfl rfl ?_) ?_
        · simp only [List.length_append]; show 1 + _ + 1 + _ < _; omega
        refine AList.c 44 rfl rfl rfl (OpJ.move rfl rfl) ?_
        refine AList.c 45 rfl rfl rfl (OpJ.move rfl rfl) ?_
        refine AList.c 46 rfl rfl rfl (OpJ.callP (ih (l.length - g) (by omega) g hg2 rfl) rfl rfl rfl rfl rf73) ?_
        refine AList.c 47 rfl rfl rfl (OpJ.strAdd _ _ rfl rfl rfl ?_) ?_
        · simp only [List.length_append]; show 1 + _ + 1 + _ + _ < _; omega
        refine AList.c 4 rfl rfl rfl (OpJ.assign rfl rfl) ?_
        refine AList.nil ?_
        refine AWp.ret ?_
        refine Fin.oneE rfl rfl ?_
        rw [itms_same hgg hg2 hg3 hgs]
      · skip
        have hg1 : g = i + 1 := by have h := of_decide_eq_false hc2; omega
        subst hg1
        refine AWp.skip ?_
        refine AWp.seq ?_
        refine AWp.region ?_
        refine AList.c 48 rfl rfl rfl (OpJ.move rfl rfl) ?_
        refine AList.c 49 rfl rfl rfl (OpJ.add (m := ((i + 1 : Nat) : Int)) rfl rfl rfl ((i64ok ?_).trans ?_)) ?_
        · omega
        · omega
        refine AList.c 7 rfl rfl rfl (OpJ.assign rfl rfl) ?_
        refine AList.nil ?_
        refine AWp.seq ?_
        refine AWp.block ?_
        refine AWp.loopHL [0, 1, 4, 5, 88, 89, 90, 91, 92, 93, 94, 95, 96, 97, 98, 99, 100, 101, 102, 103, 104, 105, 106, 107, 108, 109, 110, 111, 112, 113, 114] (fun g => [(7, .p (.int .i64 ((g : Nat) : Int)))]) (fun g => []) (fun g => i + 1 ≤ g ∧ g ≤ l.length ∧ ∀ j, i < j → j < g → gt 0 l j = gt 0 l (j - 1) + 1 ∧ (j + 1 < l.length → gt 0 l (j + 1) ≠ gt 0 l j)) (fun g => l.length - g) (i + 1) ⟨Nat.le_refl _, hil, fun j a b => absurd b (by omega)⟩ (To.sub (Sub.chk (Sub.cons rfl (Sub.nil)))) (fun e ⟨he1, he2, hec⟩ => ?_)
        refine AWp.seq ?_
        refine AWp.seq ?_
        refine AWp.regionDraw 36 mixed (by kernel_rfl) (by decide) ?_
        refine AQuiet.cons 50 rfl rfl rfl (OpJ.move rfl rfl) ?_
        refine AQuiet.cons 51 rfl rfl rfl (OpJ.move rfl rfl) ?_
        refine AQuiet.cons 52 rfl rfl rfl (OpJ.lenSlice rfl rfl sl34 rfl) ?_
        refine AQuiet.cons 53 rfl rfl rfl (OpJ.lss rfl rfl rfl) ?_
        refine AQuiet.cons 54 rfl rfl rfl (OpJ.move rfl rfl) ?_
        refine AQuiet.guard 55 54 rfl rfl rfl rfl rfl rfl rfl [(0, _)] (fun h => And.intro (.inl rfl) (trivial)) (fun h => (OpJ.move rfl rfl)) ?_
        refine AQuiet.guard 56 54 rfl rfl rfl rfl rfl rfl rfl [(7, _)] (fun h => And.intro (.inl rfl) (trivial)) (fun h => (OpJ.move rfl rfl)) ?_
        refine AQuiet.guard 57 54 rfl rfl rfl rfl rfl rfl rfl [(55, _), (56, _)] (fun h => And.intro (.inr ⟨_, rfl, h⟩) (And.intro (.inr ⟨_, rfl, h⟩) (trivial))) (fun h => (OpJ.indexG (g := gt 0 l) (gt_get _) rfl rfl rfl sl34 el34 rfl (fun _ => rfl) (by decide) (by have h2 := of_decide_eq_true (eq_of_beq h); omega))) ?_
        refine AQuiet.guard 58 54 rfl rfl rfl rfl rfl rfl rfl [(57, _)] (fun h => And.intro (.inr ⟨_, rfl, h⟩) (trivial)) (fun h => (OpJ.load (v := .p (.int .i64 (gt 0 l e))) rfl rfl ty3 rfl)) ?_
        refine AQuiet.guard 59 54 rfl rfl rfl rfl rfl rfl rfl [(0, _)] (fun h => And.intro (.inl rfl) (trivial)) (fun h => (OpJ.move rfl rfl)) ?_
        refine AQuiet.guard 60 54 rfl rfl rfl rfl rfl rfl rfl [(7, _)] (fun h => And.intro (.inl rfl) (trivial)) (fun h => (OpJ.move rfl rfl)) ?_
        refine AQuiet.guard 61 54 rfl rfl rfl rfl rfl rfl rfl [(60, _)] (fun h => And.intro (.inr ⟨_, rfl, h⟩) (trivial)) (fun h => (OpJ.sub_ (m := ((e - 1 : Nat) : Int)) rfl rfl rfl ((i64ok (by have h2 := of_decide_eq_true (eq_of_beq h); omega)).trans (by have h2 := of_decide_eq_true (eq_of_beq h); omega)))) ?_
        refine AQuiet.guard 62 54 rfl rfl rfl rfl rfl rfl rfl [(59, _), (61, _)] (fun h => And.intro (.inr ⟨_, rfl, h⟩) (And.intro (.inr ⟨_, rfl, h⟩) (trivial))) (fun h => (OpJ.indexG (g := gt 0 l) (k := (e - 1)) (gt_get _) rfl rfl rfl sl34 el34 rfl (fun _ => rfl) (by decide) (by have h2 := of_decide_eq_true (eq_of_beq h); omega))) ?_
        refine AQuiet.guard 63 54 rfl rfl rfl rfl rfl rfl rfl [(62, _)] (fun h => And.intro (.inr ⟨_, rfl, h⟩) (trivial)) (fun h => (OpJ.load (v := .p (.int .i64 (gt 0 l (e - 1)))) rfl rfl ty3 rfl)) ?_
        refine AQuiet.guard 64 54 rfl rfl rfl rfl rfl rfl rfl [(63, _)] (fun h => And.intro (.inr ⟨_, rfl, h⟩) (trivial)) (fun h => (OpJ.add rfl rfl rfl (i64ok (by have h2 := of_decide_eq_true (eq_of_beq h); have h3 := hc _ (gt_mem 0 (show e - 1 < l.length by omega)); omega)))) ?_
        refine AQuiet.guard 65 54 rfl rfl rfl rfl rfl rfl rfl [(58, _), (64, _)] (fun h => And.intro (.inr ⟨_, rfl, h⟩) (And.intro (.inr ⟨_, rfl, h⟩) (trivial))) (fun h => (OpJ.eql rfl rfl rfl)) ?_
        refine AQuiet.cons 66 rfl rfl rfl (OpJ.and_ rfl rfl rfl ?_) ?_
        · first | (intro h; rw [h]; rfl) | (intro h; simp_all)
        refine AQuiet.cons 67 rfl rfl rfl (OpJ.move rfl rfl) ?_
        refine AQuiet.guard 68 67 rfl rfl rfl rfl rfl rfl rfl [(7, _)] (fun h => And.intro (.inl rfl) (trivial)) (fun h => (OpJ.move rfl rfl)) ?_
        refine AQuiet.guard 69 67 rfl rfl rfl rfl rfl rfl rfl [(68, _)] (fun h => And.intro (.inr ⟨_, rfl, h⟩) (trivial)) (fun h => (OpJ.add (m := ((e + 1 : Nat) : Int)) rfl rfl rfl ((i64ok (by have h2 := eq_of_beq h; simp only [Bool.and_eq_true, decide_eq_true_eq] at h2; omega)).trans (by omega)))) ?_
        refine AQuiet.guard 70 67 rfl rfl rfl rfl rfl rfl rfl [(0, _)] (fun h => And.intro (.inl rfl) (trivial)) (fun h => (OpJ.move rfl rfl)) ?_
        refine AQuiet.guard 71 67 rfl rfl rfl rfl rfl rfl rfl [(70, _)] (fun h => And.intro (.inr ⟨_, rfl, h⟩) (trivial)) (fun h => (OpJ.lenSlice rfl rfl sl34 rfl)) ?_
        refine AQuiet.guard 72 67 rfl rfl rfl rfl rfl rfl rfl [(69, _), (71, _)] (fun h => And.intro (.inr ⟨_, rfl, h⟩) (And.intro (.inr ⟨_, rfl, h⟩) (trivial))) (fun h => (OpJ.eql rfl rfl rfl)) ?_
        refine AQuiet.guard 73 67 rfl rfl rfl rfl rfl rfl rfl [(72, _)] (fun h => And.intro (.inr ⟨_, rfl, h⟩) (trivial)) (fun h => (OpJ.move rfl rfl)) ?_
        refine AQuiet.guard 74 73 rfl rfl rfl rfl rfl rfl rfl [(0, _)] (fun h => And.intro (.inl rfl) (trivial)) (fun h => (OpJ.move rfl rfl)) ?_
        refine AQuiet.guard 75 73 rfl rfl rfl rfl rfl rfl rfl [(7, _)] (fun h => And.intro (.inl rfl) (trivial)) (fun h => (OpJ.move rfl rfl)) ?_
        refine AQuiet.guard 76 73 rfl rfl rfl rfl rfl rfl rfl [(75, _)] (fun h => And.intro (.inr ⟨_, rfl, h⟩) (trivial)) (fun h => (OpJ.add (m := ((e + 1 : Nat) : Int)) rfl rfl rfl ((i64ok (by omega)).trans (by omega)))) ?_
        refine AQuiet.guard 77 73 rfl rfl rfl rfl rfl rfl rfl [(74, _), (76, _)] (fun h => And.intro (.inr ⟨_, rfl, h⟩) (And.intro (.inr ⟨_, rfl, h⟩) (trivial))) (fun h => (OpJ.indexG (g := gt 0 l) (gt_get _) rfl rfl rfl sl34 el34 rfl (fun _ => rfl) (by decide) (by simp only [Bool.and_eq_true, beq_iff_eq, decide_eq_true_eq, decide_eq_false_iff_not] at h; omega))) ?_
        refine AQuiet.guard 78 73 rfl rfl rfl rfl rfl rfl rfl [(77, _)] (fun h => And.intro (.inr ⟨_, rfl, h⟩) (trivial)) (fun h => (OpJ.load (v := .p (.int .i64 (gt 0 l (e + 1)))) rfl rfl ty3 rfl)) ?_
        refine AQuiet.guard 79 73 rfl rfl rfl rfl rfl rfl rfl [(0, _)] (fun h => And.intro (.inl rfl) (trivial)) (fun h => (OpJ.move rfl rfl)) ?_
        refine AQuiet.guard 80 73 rfl rfl rfl rfl rfl rfl rfl [(7, _)] (fun h => And.intro (.inl rfl) (trivial)) (fun h => (OpJ.move rfl rfl)) ?_
        refine AQuiet.guard 81 73 rfl rfl rfl rfl rfl rfl rfl [(79, _), (80, _)] (fun h => And.intro (.inr ⟨_, rfl, h⟩) (And.intro (.inr ⟨_, rfl, h⟩) (trivial))) (fun h => (OpJ.indexG (g := gt 0 l) (gt_get _) rfl rfl rfl sl34 el34 rfl (fun _ => rfl) (by decide) (by simp only [Bool.and_eq_true, beq_iff_eq, decide_eq_true_eq, decide_eq_false_iff_not] at h; omega))) ?_
        refine AQuiet.guard 82 73 rfl rfl rfl rfl rfl rfl rfl [(81, _)] (fun h => And.intro (.inr ⟨_, rfl, h⟩) (trivial)) (fun h => (OpJ.load (v := .p (.int .i64 (gt 0 l e))) rfl rfl ty3 rfl)) ?_
        refine AQuiet.guard 83 73 rfl rfl rfl rfl rfl rfl rfl [(78, _), (82, _)] (fun h => And.intro (.inr ⟨_, rfl, h⟩) (And.intro (.inr ⟨_, rfl, h⟩) (trivial))) (fun h => (OpJ.neq rfl rfl rfl)) ?_
        refine AQuiet.guard 84 67 rfl rfl rfl rfl rfl rfl rfl [(73, _), (83, _)] (fun h => And.intro (.inr ⟨_, rfl, h⟩) (And.intro (.inl rfl) (trivial))) (fun h => (OpJ.or_ rfl rfl rfl ?_)) ?_
        · first | (intro h; rw [h]; rfl) | (intro h; simp_all)
        refine AQuiet.cons 85 rfl rfl rfl (OpJ.and_ rfl rfl rfl ?_) ?_
        · first | (intro h; rw [h]; rfl) | (intro h; simp_all)
        refine AQuiet.nil ?_
        refine AList.nil ?_
        refine AWp.cond _ rfl (fun hc3 => ?_) (fun hc3 => ?_)
        · skip
          obtain ⟨hel, hen, hex⟩ := run_c hc3
          refine AWp.skip ?_
          refine AWp.block ?_
          refine AWp.region ?_
          refine AList.c 86 rfl rfl rfl (OpJ.move rfl rfl) ?_
          refine AList.c 87 rfl rfl rfl (OpJ.add (m := ((e + 1 : Nat) : Int)) rfl rfl rfl ((i64ok ?_).trans ?_)) ?_
          · omega
          · omega
          refine AList.c 7 rfl rfl rfl (OpJ.assign rfl rfl) ?_
          refine AList.nil ?_
          refine ⟨e + 1, ?_, ?_, ?_⟩
          · refine ⟨by omega, hel, fun j a b => ?_⟩
            rcases Nat.lt_succ_iff_lt_or_eq.1 b with h | rfl
            · exact hec j a h
            · exact ⟨hen, fun h => hex.resolve_left (by omega)⟩
          · omega
          exact To.done [] rfl (by repeat (first | exact Sub.nil | refine Sub.cons rfl ?_)) rfl
        · skip
          have hstop := run_cn hc3
          refine AWp.exit ?_
          refine AWp.seq ?_
          refine AWp.seq ?_
          refine AWp.region ?_
          refine AList.c 88 rfl rfl rfl (OpJ.move rfl rfl) ?_
          refine AList.c 89 rfl rfl rfl (OpJ.move rfl rfl) ?_
          refine AList.c 90 rfl rfl rfl (OpJ.sub_ (m := ((e - i : Nat) : Int)) rfl rfl rfl ((i64ok ?_).trans ?_)) ?_
          · omega
          · omega
          refine AList.c 91 rfl rfl rfl (OpJ.geq rfl rfl rfl) ?_
          refine AList.nil ?_
          refine AWp.cond _ rfl (fun hc4 => ?_) (fun hc4 => ?_)
          · skip
            have he3 : i + 3 ≤ e := by have h := of_decide_eq_true hc4; omega
            obtain ⟨hw0, hw1⟩ := hc _ (gt_mem 0 (show e - 1 < l.length by omega))
            have hT1 := itoa_len hw0 (show gt 0 l (e - 1) ≤ 1099511627776 by omega)
            have hT2 := itms_len hl hc e
            refine AWp.seq ?_
            refine AWp.regionDraw 16 mixed (by kernel_rfl) (by decide) ?_
            refine AQuiet.cons 92 rfl rfl rfl (OpJ.move rfl rfl) ?_
            refine AQuiet.cons 93 rfl rfl rfl (OpJ.callP (rtext_ok _ hv0 (by omega)) rfl rfl rfl rfl rf72) ?_
            refine AQuiet.cons 94 rfl rfl rfl (OpJ.strAdd [32] _ rfl rfl rfl ?_) ?_
            · show 1 + _ < _; omega
            refine AQuiet.cons 95 rfl rfl rfl (OpJ.strAdd _ [45] rfl rfl rfl ?_) ?_
            · rw [List.length_append]; show 1 + _ + 1 < _; omega
            refine AQuiet.cons 96 rfl rfl rfl (OpJ.move rfl rfl) ?_
            refine AQuiet.cons 97 rfl rfl rfl (OpJ.move rfl rfl) ?_
            refine AQuiet.cons 98 rfl rfl rfl (OpJ.sub_ (m := ((e - 1 : Nat) : Int)) rfl rfl rfl ((i64ok ?_).trans ?_)) ?_
            · omega
            · omega
            refine AQuiet.cons 99 rfl rfl rfl (OpJ.indexG (g := gt 0 l) (gt_get _) rfl rfl rfl sl34 el34 rfl (fun _ => rfl) (by decide) (by omega)) ?_
            refine AQuiet.cons 100 rfl rfl rfl (OpJ.load (v := .p (.int .i64 (gt 0 l (e - 1)))) rfl rfl ty3 rfl) ?_
            refine AQuiet.cons 101 rfl rfl rfl (OpJ.callP (rtext_ok _ hw0 (by omega)) rfl rfl rfl rfl rf72) ?_
            refine AQuiet.cons 102 rfl rfl rfl (OpJ.strAdd _ _ rfl rfl rfl ?_) ?_
            · simp only [List.length_append]; show 1 + _ + 1 + _ < _; omega
            refine AQuiet.cons 103 rfl rfl rfl (OpJ.move rfl rfl) ?_
            refine AQuiet.cons 104 rfl rfl rfl (OpJ.move rfl rfl) ?_
            refine AQuiet.cons 105 rfl rfl rfl (OpJ.callP (ih (l.length - e) (by omega) e he2 rfl) rfl rfl rfl rfl rf73) ?_
            refine AQuiet.cons 106 rfl rfl rfl (OpJ.strAdd _ _ rfl rfl rfl ?_) ?_
            · simp only [List.length_append]; show 1 + _ + 1 + _ + _ < _; omega
            refine AQuiet.cons 4 rfl rfl rfl (OpJ.assign rfl rfl) ?_
            refine AQuiet.nil ?_
            refine AList.nil ?_
            refine AWp.ret ?_
            refine Fin.oneE rfl rfl ?_
            rw [itms_run hil hgs he3 he2 hec hstop]
          · skip
            have he3 : e < i + 3 := by have h := of_decide_eq_false hc4; omega
            have hT2 := itms_len hl hc (i + 1)
            refine AWp.skip ?_
            refine AWp.seq ?_
            refine AWp.region ?_
            refine AList.c 107 rfl rfl rfl (OpJ.move rfl rfl) ?_
            refine AList.c 108 rfl rfl rfl (OpJ.callP (rtext_ok _ hv0 (by omega)) rfl rfl rfl rfl rf72) ?_
            refine AList.c 109 rfl rfl rfl (OpJ.strAdd [32] _ rfl rfl rfl ?_) ?_
            · show 1 + _ < _; omega
            refine AList.c 110 rfl rfl rfl (OpJ.move rfl rfl) ?_
            refine AList.c 111 rfl rfl rfl (OpJ.move rfl rfl) ?_
            refine AList.c 112 rfl rfl rfl (OpJ.add (m := ((i + 1 : Nat) : Int)) rfl rfl rfl ((i64ok ?_).trans ?_)) ?_
            · omega
            · omega
            refine AList.c 113 rfl rfl rfl (OpJ.callP (ih (l.length - (i + 1)) (by omega) (i + 1) hil rfl) rfl rfl rfl rfl rf73) ?_
            refine AList.c 114 rfl rfl rfl (OpJ.strAdd _ _ rfl rfl rfl ?_) ?_
            · simp only [List.length_append]; show 1 + _ + _ < _; omega
            refine AList.c 4 rfl rfl rfl (OpJ.assign rfl rfl) ?_
            refine AList.nil ?_
            refine AWp.ret ?_
            refine Fin.oneE rfl rfl ?_
            rw [itms_one hil hgs he1 he3 he2 hec hstop]
end Go.Proofs.YtplofbjppcbchaaDoor
end

section
set_option linter.unusedVariables false
set_option maxRecDepth 100000
set_option maxHeartbeats 4000000
set_option linter.unusedSimpArgs false
namespace Go.Proofs.YtplofbjppcbchaaDoor
open Go.AF
theorem rpacks_ok (l : List Pck) (hl : l.length ≤ bigN) (hs : ∀ p ∈ l, p.colours.length ≤ bigN) : Pure Tryd.prog 71 [pcksV l] (.bool (pcksB l)) := by
  have hl2 := hl
  unfold bigN at hl2
  refine Pure.start (N := 74) Tryd.func71 rfl rfl (Nat.le_of_ble_eq_true rfl) ?_
  refine AWp.seq ?_
  refine AWp.region ?_
  refine AList.c 2 rfl rfl rfl (OpJ.assign rfl rfl) ?_
  refine AList.nil ?_
  refine AWp.seq ?_
  refine AWp.seq ?_
  refine AWp.region ?_
  refine AList.c 3 rfl rfl rfl (OpJ.assign rfl rfl) ?_
  refine AList.nil ?_
  refine AWp.block ?_
  refine AWp.loopHL [0] (fun g => [(3, .p (.int .i64 ((g : Nat) : Int)))]) (fun g => []) (fun g => g ≤ l.length ∧ riseB Pck.box pckB (-1) l = riseB Pck.box pckB (lastR Pck.box Pck.d l g) (l.drop g) ∧ -1 ≤ lastR Pck.box Pck.d l g) (fun g => l.length - g) 0 ⟨Nat.zero_le _, rfl, (by show (-1 : Int) ≤ -1; decide)⟩ (To.sub (Sub.chk (Sub.cons rfl (Sub.nil)))) (fun i ⟨hg1, hg2, hg3⟩ => ?_)
  refine AWp.seq ?_
  refine AWp.seq ?_
  refine AWp.region ?_
  refine AList.c 6 rfl rfl rfl (OpJ.move rfl rfl) ?_
  refine AList.c 7 rfl rfl rfl (OpJ.move rfl rfl) ?_
  refine AList.c 8 rfl rfl rfl (OpJ.lenSlice rfl rfl sl24 rfl) ?_
  refine AList.c 9 rfl rfl rfl (OpJ.lss rfl rfl rfl) ?_
  refine AList.nil ?_
  refine AWp.cond _ rfl (fun hc0 => ?_) (fun hc0 => ?_)
  · skip
    have hk0 : i < l.length := by have h := of_decide_eq_true hc0; omega
    have hps := hs _ (gt_mem Pck.d hk0)
    unfold bigN at hps
    have hrc := ris_c (n := (gt Pck.d l i).box) (last_ge (num := Pck.box) (d := Pck.d) (l := l) (i := i)).1 (last_ge (num := Pck.box) (d := Pck.d) (l := l) (i := i)).2 hg3
    refine AWp.skip ?_
    refine AWp.seq ?_
    refine AWp.block ?_
    refine AWp.seq ?_
    refine AWp.region ?_
    refine AList.c 12 rfl rfl rfl (OpJ.move rfl rfl) ?_
    refine AList.c 13 rfl rfl rfl (OpJ.move rfl rfl) ?_
    refine AList.c 14 rfl rfl rfl (OpJ.indexG (g := gt Pck.d l) (gt_get _) rfl rfl rfl sl24 el24 rfl (fun _ => rfl) (by decide) hk0) ?_
    refine AList.c 15 rfl rfl rfl (OpJ.load (v := .p (.agg (gt Pck.d l i).cells)) rfl rfl ty36 rfl) ?_
    refine AList.c 4 rfl rfl rfl (OpJ.allocOwn rfl zr36 rfl) ?_
    refine AList.c0 rfl rfl (OpJ.store rfl rfl rfl rfl rfl ty36 rfl rfl) ?_
    refine AList.nil ?_
    refine AWp.seq ?_
    refine AWp.seq ?_
    refine AWp.regionDraw 26 mixed (by kernel_rfl) (by decide) ?_
    refine AQuiet.cons 16 rfl rfl rfl (OpJ.fieldAddr rfl rfl fd36_0 rfl) ?_
    refine AQuiet.cons 17 rfl rfl rfl (OpJ.load (v := .p (.int .i64 (gt Pck.d l i).box)) rfl rfl ty3 rfl) ?_
    refine AQuiet.cons 18 rfl rfl rfl (OpJ.callP (rin_ok _ _ _) rfl rfl rfl rfl rf84) ?_
    refine AQuiet.cons 19 rfl rfl rfl (OpJ.not_ rfl rfl) ?_
    refine AQuiet.cons 20 rfl rfl rfl (OpJ.move rfl rfl) ?_
    refine AQuiet.guard 21 20 rfl rfl rfl rfl rfl rfl rfl [(3, _)] (fun h => And.intro (.inl rfl) (trivial)) (fun h => (OpJ.move rfl rfl)) ?_
    refine AQuiet.guard 22 20 rfl rfl rfl rfl rfl rfl rfl [(21, _)] (fun h => And.intro (.inr ⟨_, rfl, h⟩) (trivial)) (fun h => (OpJ.gtr rfl rfl rfl)) ?_
    refine AQuiet.guard 23 20 rfl rfl rfl rfl rfl rfl rfl [(22, _)] (fun h => And.intro (.inr ⟨_, rfl, h⟩) (trivial)) (fun h => (OpJ.move rfl rfl)) ?_
    refine AQuiet.guard 24 23 rfl rfl rfl rfl rfl rfl rfl [(4, _)] (fun h => And.intro (.inl rfl) (trivial)) (fun h => (OpJ.fieldAddr rfl rfl fd36_0 rfl)) ?_
    refine AQuiet.guard 25 23 rfl rfl rfl rfl rfl rfl rfl [(24, _)] (fun h => And.intro (.inr ⟨_, rfl, h⟩) (trivial)) (fun h => (OpJ.load (v := .p (.int .i64 (gt Pck.d l i).box)) rfl rfl ty3 rfl)) ?_
    refine AQuiet.guard 26 23 rfl rfl rfl rfl rfl rfl rfl [(0, _)] (fun h => And.intro (.inl rfl) (trivial)) (fun h => (OpJ.move rfl rfl)) ?_
    refine AQuiet.guard 27 23 rfl rfl rfl rfl rfl rfl rfl [(3, _)] (fun h => And.intro (.inl rfl) (trivial)) (fun h => (OpJ.move rfl rfl)) ?_
    refine AQuiet.guard 28 23 rfl rfl rfl rfl rfl rfl rfl [(27, _)] (fun h => And.intro (.inr ⟨_, rfl, h⟩) (trivial)) (fun h => (OpJ.sub_ (m := ((i - 1 : Nat) : Int)) rfl rfl rfl ((i64ok (by simp only [Bool.and_eq_true, beq_iff_eq, decide_eq_true_eq, decide_eq_false_iff_not] at h; omega)).trans (by simp only [Bool.and_eq_true, beq_iff_eq, decide_eq_true_eq, decide_eq_false_iff_not] at h; omega)))) ?_
    refine AQuiet.guard 29 23 rfl rfl rfl rfl rfl rfl rfl [(26, _), (28, _)] (fun h => And.intro (.inr ⟨_, rfl, h⟩) (And.intro (.inr ⟨_, rfl, h⟩) (trivial))) (fun h => (OpJ.indexG (g := gt Pck.d l) (k := (i - 1)) (gt_get _) rfl rfl rfl sl24 el24 rfl (fun _ => rfl) (by decide) (by omega))) ?_
    refine AQuiet.guard 30 23 rfl rfl rfl rfl rfl rfl rfl [(29, _)] (fun h => And.intro (.inr ⟨_, rfl, h⟩) (trivial)) (fun h => (OpJ.fieldAddr rfl rfl fd36_0 rfl)) ?_
    refine AQuiet.guard 31 23 rfl rfl rfl rfl rfl rfl rfl [(30, _)] (fun h => And.intro (.inr ⟨_, rfl, h⟩) (trivial)) (fun h => (OpJ.load (v := .p (.int .i64 (gt Pck.d l (i - 1)).box)) rfl rfl ty3 rfl)) ?_
    refine AQuiet.guard 32 23 rfl rfl rfl rfl rfl rfl rfl [(25, _), (31, _)] (fun h => And.intro (.inr ⟨_, rfl, h⟩) (And.intro (.inr ⟨_, rfl, h⟩) (trivial))) (fun h => (OpJ.leq rfl rfl rfl)) ?_
    refine AQuiet.guard 33 20 rfl rfl rfl rfl rfl rfl rfl [(23, _), (32, _)] (fun h => And.intro (.inr ⟨_, rfl, h⟩) (And.intro (.inl rfl) (trivial))) (fun h => (OpJ.and_ rfl rfl rfl ?_)) ?_
    · first | (intro h; rw [h]; rfl) | (intro h; simp_all)
    refine AQuiet.cons 34 rfl rfl rfl (OpJ.or_ rfl rfl rfl ?_) ?_
    · first | (intro h; rw [h]; rfl) | (intro h; simp_all)
    refine AQuiet.cons 35 rfl rfl rfl (OpJ.move rfl rfl) ?_
    refine AQuiet.guard 36 35 rfl rfl rfl rfl rfl rfl rfl [(4, _)] (fun h => And.intro (.inl rfl) (trivial)) (fun h => (OpJ.fieldAddr rfl rfl fd36_1 rfl)) ?_
    refine AQuiet.guard 37 35 rfl rfl rfl rfl rfl rfl rfl [(36, _)] (fun h => And.intro (.inr ⟨_, rfl, h⟩) (trivial)) (fun h => (OpJ.load (v := .p (intsV (gt Pck.d l i).colours)) rfl rfl ty34 rfl)) ?_
    refine AQuiet.guard 38 35 rfl rfl rfl rfl rfl rfl rfl [(37, _)] (fun h => And.intro (.inr ⟨_, rfl, h⟩) (trivial)) (fun h => (OpJ.lenSlice rfl rfl sl34 rfl)) ?_
    refine AQuiet.guard 39 35 rfl rfl rfl rfl rfl rfl rfl [(38, _)] (fun h => And.intro (.inr ⟨_, rfl, h⟩) (trivial)) (fun h => (OpJ.callP (rin_ok _ _ _) rfl rfl rfl rfl rf84)) ?_
    refine AQuiet.guard 40 35 rfl rfl rfl rfl rfl rfl rfl [(39, _)] (fun h => And.intro (.inr ⟨_, rfl, h⟩) (trivial)) (fun h => (OpJ.not_ rfl rfl)) ?_
    refine AQuiet.cons 41 rfl rfl rfl (OpJ.or_ rfl rfl rfl ?_) ?_
    · first | (intro h; rw [h]; rfl) | (intro h; simp_all)
    refine AQuiet.nil ?_
    refine AList.nil ?_
    refine AWp.cond _ rfl (fun hc1 => ?_) (fun hc1 => ?_)
    · skip
      have hno : riseB Pck.box pckB (lastR Pck.box Pck.d l i) (l.drop i) = false := pk_c1 hk0 hrc hc1
      refine AWp.seq ?_
      refine AWp.region ?_
      refine AList.c 2 rfl rfl rfl (OpJ.assign rfl rfl) ?_
      refine AList.nil ?_
      refine AWp.ret ?_
      refine Fin.oneE rfl rfl ?_
      show _ = PV.bool (riseB Pck.box pckB (-1) l)
      rw [hg2, hno]
    · skip
      obtain ⟨hin1, hin2⟩ := pk_c1n hrc hc1
      refine AWp.skip ?_
      refine AWp.seq ?_
      refine AWp.region ?_
      refine AList.c 5 rfl rfl rfl (OpJ.assign rfl rfl) ?_
      refine AList.nil ?_
      refine AWp.block ?_
      refine AWp.loopHL [0, 3, 4, 6, 7, 8, 9, 10, 11, 12, 13, 14, 15, 16, 17, 18, 19, 20, 21, 22, 23, 24, 25, 26, 27, 28, 29, 30, 31, 32, 33, 34, 35, 36, 37, 38, 39, 40, 41] (fun g => [(5, .p (.int .i64 ((g : Nat) : Int)))]) (fun g => [.cells ((gt Pck.d l i).cells.map .p) 36]) (fun g => g ≤ (gt Pck.d l i).colours.length ∧ colsB 0 (gt Pck.d l i).colours = colsB (lastC (gt Pck.d l i).colours g) ((gt Pck.d l i).colours.drop g) ∧ 0 ≤ lastC (gt Pck.d l i).colours g) (fun g => (gt Pck.d l i).colours.length - g) 0 ⟨Nat.zero_le _, rfl, Int.le_refl _⟩ (To.sub (Sub.chk (Sub.cons rfl (Sub.nil)))) (fun k ⟨hk1, hk3, hk5⟩ => ?_)
      refine AWp.seq ?_
      refine AWp.seq ?_
      refine AWp.region ?_
      refine AList.c 42 rfl rfl rfl (OpJ.move rfl rfl) ?_
      refine AList.c 43 rfl rfl rfl (OpJ.fieldAddr rfl rfl fd36_1 rfl) ?_
      refine AList.c 44 rfl rfl rfl (OpJ.load (v := .p (intsV (gt Pck.d l i).colours)) rfl rfl ty34 rfl) ?_
      refine AList.c 45 rfl rfl rfl (OpJ.lenSlice rfl rfl sl34 rfl) ?_
      refine AList.c 46 rfl rfl rfl (OpJ.lss rfl rfl rfl) ?_
      refine AList.nil ?_
      refine AWp.cond _ rfl (fun hc2 => ?_) (fun hc2 => ?_)
      · skip
        have hk2 : k < (gt Pck.d l i).colours.length := by have h := of_decide_eq_true hc2; omega
        have hcc := col_c (c := gt 0 (gt Pck.d l i).colours k) (lastC_ge (cs := (gt Pck.d l i).colours) (k := k)).1 (lastC_ge (cs := (gt Pck.d l i).colours) (k := k)).2 hk5
        refine AWp.skip ?_
        refine AWp.seq ?_
        refine AWp.block ?_
        refine AWp.seq ?_
        refine AWp.regionDraw 25 mixed (by kernel_rfl) (by decide) ?_
        refine AQuiet.cons 49 rfl rfl rfl (OpJ.fieldAddr rfl rfl fd36_1 rfl) ?_
        refine AQuiet.cons 50 rfl rfl rfl (OpJ.load (v := .p (intsV (gt Pck.d l i).colours)) rfl rfl ty34 rfl) ?_
        refine AQuiet.cons 51 rfl rfl rfl (OpJ.move rfl rfl) ?_
        refine AQuiet.cons 52 rfl rfl rfl (OpJ.indexG (g := gt 0 (gt Pck.d l i).colours) (gt_get _) rfl rfl rfl sl34 el34 rfl (fun _ => rfl) (by decide) hk2) ?_
        refine AQuiet.cons 53 rfl rfl rfl (OpJ.load (v := .p (.int .i64 (gt 0 (gt Pck.d l i).colours k))) rfl rfl ty3 rfl) ?_
        refine AQuiet.cons 54 rfl rfl rfl (OpJ.callP (rin_ok _ _ _) rfl rfl rfl rfl rf84) ?_
        refine AQuiet.cons 55 rfl rfl rfl (OpJ.not_ rfl rfl) ?_
        refine AQuiet.cons 56 rfl rfl rfl (OpJ.move rfl rfl) ?_
        refine AQuiet.guard 57 56 rfl rfl rfl rfl rfl rfl rfl [(5, _)] (fun h => And.intro (.inl rfl) (trivial)) (fun h => (OpJ.move rfl rfl)) ?_
        refine AQuiet.guard 58 56 rfl rfl rfl rfl rfl rfl rfl [(57, _)] (fun h => And.intro (.inr ⟨_, rfl, h⟩) (trivial)) (fun h => (OpJ.gtr rfl rfl rfl)) ?_
        refine AQuiet.guard 59 56 rfl rfl rfl rfl rfl rfl rfl [(58, _)] (fun h => And.intro (.inr ⟨_, rfl, h⟩) (trivial)) (fun h => (OpJ.move rfl rfl)) ?_
        refine AQuiet.guard 60 59 rfl rfl rfl rfl rfl rfl rfl [(4, _)] (fun h => And.intro (.inl rfl) (trivial)) (fun h => (OpJ.fieldAddr rfl rfl fd36_1 rfl)) ?_
        refine AQuiet.guard 61 59 rfl rfl rfl rfl rfl rfl rfl [(60, _)] (fun h => And.intro (.inr ⟨_, rfl, h⟩) (trivial)) (fun h => (OpJ.load (v := .p (intsV (gt Pck.d l i).colours)) rfl rfl ty34 rfl)) ?_
        refine AQuiet.guard 62 59 rfl rfl rfl rfl rfl rfl rfl [(5, _)] (fun h => And.intro (.inl rfl) (trivial)) (fun h => (OpJ.move rfl rfl)) ?_
        refine AQuiet.guard 63 59 rfl rfl rfl rfl rfl rfl rfl [(61, _), (62, _)] (fun h => And.intro (.inr ⟨_, rfl, h⟩) (And.intro (.inr ⟨_, rfl, h⟩) (trivial))) (fun h => (OpJ.indexG (g := gt 0 (gt Pck.d l i).colours) (gt_get _) rfl rfl rfl sl34 el34 rfl (fun _ => rfl) (by decide) hk2)) ?_
        refine AQuiet.guard 64 59 rfl rfl rfl rfl rfl rfl rfl [(63, _)] (fun h => And.intro (.inr ⟨_, rfl, h⟩) (trivial)) (fun h => (OpJ.load (v := .p (.int .i64 (gt 0 (gt Pck.d l i).colours k))) rfl rfl ty3 rfl)) ?_
        refine AQuiet.guard 65 59 rfl rfl rfl rfl rfl rfl rfl [(4, _)] (fun h => And.intro (.inl rfl) (trivial)) (fun h => (OpJ.fieldAddr rfl rfl fd36_1 rfl)) ?_
        refine AQuiet.guard 66 59 rfl rfl rfl rfl rfl rfl rfl [(65, _)] (fun h => And.intro (.inr ⟨_, rfl, h⟩) (trivial)) (fun h => (OpJ.load (v := .p (intsV (gt Pck.d l i).colours)) rfl rfl ty34 rfl)) ?_
        refine AQuiet.guard 67 59 rfl rfl rfl rfl rfl rfl rfl [(5, _)] (fun h => And.intro (.inl rfl) (trivial)) (fun h => (OpJ.move rfl rfl)) ?_
        refine AQuiet.guard 68 59 rfl rfl rfl rfl rfl rfl rfl [(67, _)] (fun h => And.intro (.inr ⟨_, rfl, h⟩) (trivial)) (fun h => (OpJ.sub_ (m := ((k - 1 : Nat) : Int)) rfl rfl rfl ((i64ok (by simp only [Bool.and_eq_true, beq_iff_eq, decide_eq_true_eq, decide_eq_false_iff_not] at h; omega)).trans (by simp only [Bool.and_eq_true, beq_iff_eq, decide_eq_true_eq, decide_eq_false_iff_not] at h; omega)))) ?_
        refine AQuiet.guard 69 59 rfl rfl rfl rfl rfl rfl rfl [(66, _), (68, _)] (fun h => And.intro (.inr ⟨_, rfl, h⟩) (And.intro (.inr ⟨_, rfl, h⟩) (trivial))) (fun h => (OpJ.indexG (g := gt 0 (gt Pck.d l i).colours) (k := (k - 1)) (gt_get _) rfl rfl rfl sl34 el34 rfl (fun _ => rfl) (by decide) (by omega))) ?_
        refine AQuiet.guard 70 59 rfl rfl rfl rfl rfl rfl rfl [(69, _)] (fun h => And.intro (.inr ⟨_, rfl, h⟩) (trivial)) (fun h => (OpJ.load (v := .p (.int .i64 (gt 0 (gt Pck.d l i).colours (k - 1)))) rfl rfl ty3 rfl)) ?_
        refine AQuiet.guard 71 59 rfl rfl rfl rfl rfl rfl rfl [(64, _), (70, _)] (fun h => And.intro (.inr ⟨_, rfl, h⟩) (And.intro (.inr ⟨_, rfl, h⟩) (trivial))) (fun h => (OpJ.lss rfl rfl rfl)) ?_
        refine AQuiet.guard 72 56 rfl rfl rfl rfl rfl rfl rfl [(59, _), (71, _)] (fun h => And.intro (.inr ⟨_, rfl, h⟩) (And.intro (.inl rfl) (trivial))) (fun h => (OpJ.and_ rfl rfl rfl ?_)) ?_
        · first | (intro h; rw [h]; rfl) | (intro h; simp_all)
        refine AQuiet.cons 73 rfl rfl rfl (OpJ.or_ rfl rfl rfl ?_) ?_
        · first | (intro h; rw [h]; rfl) | (intro h; simp_all)
        refine AQuiet.nil ?_
        refine AList.nil ?_
        refine AWp.cond _ rfl (fun hc3 => ?_) (fun hc3 => ?_)
        · skip
          have hcol : inB (gt 0 (gt Pck.d l i).colours k) (lastC (gt Pck.d l i).colours k) 99 = false := by rw [hcc] at hc3; simpa using hc3
          refine AWp.seq ?_
          refine AWp.region ?_
          refine AList.c 2 rfl rfl rfl (OpJ.assign rfl rfl) ?_
          refine AList.nil ?_
          refine AWp.ret ?_
          refine Fin.oneE rfl rfl ?_
          show _ = PV.bool (riseB Pck.box pckB (-1) l)
          rw [hg2, rise_step Pck.box pckB _ Pck.d l i hk0]
          have hpk : pckB (gt Pck.d l i) = false := by unfold pckB; rw [hk3, cols_step _ _ k hk2, hcol]; rfl
          rw [hpk, Bool.and_false, Bool.false_and]
        · skip
          have hcol : inB (gt 0 (gt Pck.d l i).colours k) (lastC (gt Pck.d l i).colours k) 99 = true := by rw [hcc] at hc3; simpa using hc3
          refine AWp.skip ?_
          refine AWp.region ?_
          refine AList.c 47 rfl rfl rfl (OpJ.move rfl rfl) ?_
          refine AList.c 48 rfl rfl rfl (OpJ.add rfl rfl rfl (i64ok ?_)) ?_
          · omega
          refine AList.c 5 rfl rfl rfl (OpJ.assign rfl rfl) ?_
          refine AList.nil ?_
          refine ⟨k + 1, ?_, ?_, ?_⟩
          · exact ⟨hk2, by rw [hk3, cols_step _ _ k hk2, hcol]; rfl, by have := inB_some hcol; show 0 ≤ gt 0 (gt Pck.d l i).colours k; omega⟩
          · omega
          exact To.done [0] rfl (by repeat (first | exact Sub.nil | refine Sub.cons rfl ?_)) rfl
      · skip
        have hk4 : colsB 0 (gt Pck.d l i).colours = true := by have h : k = (gt Pck.d l i).colours.length := (by have h := of_decide_eq_false hc2; omega); rw [hk3, h, List.drop_length]; rfl
        refine AWp.exit ?_
        refine AWp.region ?_
        refine AList.c 10 rfl rfl rfl (OpJ.move rfl rfl) ?_
        refine AList.c 11 rfl rfl rfl (OpJ.add rfl rfl rfl (i64ok ?_)) ?_
        · omega
        refine AList.c 3 rfl rfl rfl (OpJ.assign rfl rfl) ?_
        refine AList.nil ?_
        refine ⟨i + 1, ?_, ?_, ?_⟩
        · have hpk : pckB (gt Pck.d l i) = true := by unfold pckB; rw [hk4, hin2]; rfl
          exact ⟨hk0, by rw [hg2, rise_step Pck.box pckB _ Pck.d l i hk0, hin1, hpk]; rfl, by have := inB_some hin1; show -1 ≤ (gt Pck.d l i).box; omega⟩
        · omega
        exact To.done [] rfl (by repeat (first | exact Sub.nil | refine Sub.cons rfl ?_)) rfl
  · skip
    have hi : i = l.length := by have h := of_decide_eq_false hc0; omega
    refine AWp.exit ?_
    refine AWp.seq ?_
    refine AWp.region ?_
    refine AList.c 2 rfl rfl rfl (OpJ.assign rfl rfl) ?_
    refine AList.nil ?_
    refine AWp.ret ?_
    refine Fin.oneE rfl rfl ?_
    show _ = PV.bool (riseB Pck.box pckB (-1) l)
    rw [hg2, hi, List.drop_length]
    rfl
theorem rwriteP_ok (l : List Pck) (hl : l.length ≤ bigN) (hs : ∀ p ∈ l, p.colours.length ≤ bigN) : Pure Tryd.prog 37 [pcksV l] (.tuple [.str (sB (wrP l).1), .int .i64 (wrP l).2]) := by
  have hl2 := hl
  unfold bigN at hl2
  refine Pure.start (N := 36) Tryd.func37 rfl rfl (Nat.le_of_ble_eq_true rfl) ?_
  refine AWp.seq ?_
  refine AWp.region ?_
  refine AList.c 2 rfl rfl rfl (OpJ.assign rfl rfl) ?_
  refine AList.c 3 rfl rfl rfl (OpJ.assign rfl rfl) ?_
  refine AList.nil ?_
  refine AWp.seq ?_
  refine AWp.seq ?_
  refine AWp.region ?_
  refine AList.c 6 rfl rfl rfl (OpJ.move rfl rfl) ?_
  refine AList.c 7 rfl rfl rfl (OpJ.lenSlice rfl rfl sl24 rfl) ?_
  refine AList.c 8 rfl rfl rfl (OpJ.gtr rfl rfl rfl) ?_
  refine AList.nil ?_
  refine AWp.cond _ rfl (fun hc0 => ?_) (fun hc0 => ?_)
  · skip
    have h30 : 30 < l.length := by have h := of_decide_eq_true hc0; omega
    refine AWp.seq ?_
    refine AWp.region ?_
    refine AList.c 2 rfl rfl rfl (OpJ.assign rfl rfl) ?_
    refine AList.c 3 rfl rfl rfl (OpJ.assign rfl rfl) ?_
    refine AList.nil ?_
    refine AWp.ret ?_
    refine Fin.manyE (xs := [.str (sB []), .int .i64 3]) rfl ⟨_, _, rfl, rfl, ⟨_, _, rfl, rfl, rfl⟩⟩ rfl ?_
    rw [wrP_3 h30]
  · skip
    have h30 : l.length ≤ 30 := by have h := of_decide_eq_false hc0; omega
    refine AWp.skip ?_
    refine AWp.seq ?_
    refine AWp.seq ?_
    refine AWp.region ?_
    refine AList.c 9 rfl rfl rfl (OpJ.move rfl rfl) ?_
    refine AList.c 10 rfl rfl rfl (OpJ.callP (rpacks_ok l hl hs) rfl rfl rfl rfl rf71) ?_
    refine AList.c 11 rfl rfl rfl (OpJ.not_ rfl rfl) ?_
    refine AList.nil ?_
    refine AWp.cond _ rfl (fun hc1 => ?_) (fun hc1 => ?_)
    · skip
      have hv : pcksB l = false := by simpa using hc1
      refine AWp.seq ?_
      refine AWp.region ?_
      refine AList.c 2 rfl rfl rfl (OpJ.assign rfl rfl) ?_
      refine AList.c 3 rfl rfl rfl (OpJ.assign rfl rfl) ?_
      refine AList.nil ?_
      refine AWp.ret ?_
      refine Fin.manyE (xs := [.str (sB []), .int .i64 1]) rfl ⟨_, _, rfl, rfl, ⟨_, _, rfl, rfl, rfl⟩⟩ rfl ?_
      rw [wrP_1 h30 hv]
    · skip
      have hv : pcksB l = true := by simpa using hc1
      have hB : (l.flatMap pckT).length ≤ 40770 := pcksT_len hv h30
      have hall := rise_all hv (by decide)
      refine AWp.skip ?_
      refine AWp.seq ?_
      refine AWp.region ?_
      refine AList.c 4 rfl rfl rfl (OpJ.assign rfl rfl) ?_
      refine AList.nil ?_
      refine AWp.seq ?_
      refine AWp.seq ?_
      refine AWp.region ?_
      refine AList.c 5 rfl rfl rfl (OpJ.assign rfl rfl) ?_
      refine AList.nil ?_
      refine AWp.block ?_
      refine AWp.loopHL [0, 2, 3, 35] (fun g => [(5, .p (.int .i64 ((g : Nat) : Int))), (4, .p (.str (sB ((l.take g).flatMap pckT))))]) (fun g => []) (fun g => g ≤ l.length) (fun g => l.length - g) 0 (Nat.zero_le _) (To.sub (Sub.chk (Sub.cons rfl (Sub.cons rfl (Sub.nil))))) (fun i hg => ?_)
      refine AWp.seq ?_
      refine AWp.seq ?_
      refine AWp.region ?_
      refine AList.c 12 rfl rfl rfl (OpJ.move rfl rfl) ?_
      refine AList.c 13 rfl rfl rfl (OpJ.move rfl rfl) ?_
      refine AList.c 14 rfl rfl rfl (OpJ.lenSlice rfl rfl sl24 rfl) ?_
      refine AList.c 15 rfl rfl rfl (OpJ.lss rfl rfl rfl) ?_
      refine AList.nil ?_
      refine AWp.cond _ rfl (fun hc2 => ?_) (fun hc2 => ?_)
      · skip
        have hk0 : i < l.length := by have h := of_decide_eq_true hc2; omega
        obtain ⟨_, hn0, hn1, hpb⟩ := hall _ (gt_mem Pck.d hk0)
        obtain ⟨hcc, hc1a, hc48⟩ := pckB_some hpb
        have hst := wp_step l i hk0
        have hbi := txt_le pckT l (i + 1) hB
        have hbi2 : ((l.take i).flatMap pckT ++ Lib.itoa (gt Pck.d l i).box ++ [58] ++ itmsT ((gt Pck.d l i).colours.drop 0) ++ [10]).length ≤ 40770 := by rw [hst]; exact hbi
        simp only [List.length_append, List.length_singleton] at hbi2
        refine AWp.skip ?_
        refine AWp.seq ?_
        refine AWp.block ?_
        refine AWp.regionDraw 18 mixed (by kernel_rfl) (by decide) ?_
        refine AQuiet.cons 18 rfl rfl rfl (OpJ.move rfl rfl) ?_
        refine AQuiet.cons 19 rfl rfl rfl (OpJ.move rfl rfl) ?_
        refine AQuiet.cons 20 rfl rfl rfl (OpJ.move rfl rfl) ?_
        refine AQuiet.cons 21 rfl rfl rfl (OpJ.indexG (g := gt Pck.d l) (gt_get _) rfl rfl rfl sl24 el24 rfl (fun _ => rfl) (by decide) hk0) ?_
        refine AQuiet.cons 22 rfl rfl rfl (OpJ.fieldAddr rfl rfl fd36_0 rfl) ?_
        refine AQuiet.cons 23 rfl rfl rfl (OpJ.load (v := .p (.int .i64 (gt Pck.d l i).box)) rfl rfl ty3 rfl) ?_
        refine AQuiet.cons 24 rfl rfl rfl (OpJ.callP (rtext_ok _ hn0 (by omega)) rfl rfl rfl rfl rf72) ?_
        refine AQuiet.cons 25 rfl rfl rfl (OpJ.strAdd _ _ rfl rfl rfl ?_) ?_
        · omega
        refine AQuiet.cons 26 rfl rfl rfl (OpJ.strAdd _ [58] rfl rfl rfl ?_) ?_
        · simp only [List.length_append, List.length_singleton]; omega
        refine AQuiet.cons 27 rfl rfl rfl (OpJ.move rfl rfl) ?_
        refine AQuiet.cons 28 rfl rfl rfl (OpJ.move rfl rfl) ?_
        refine AQuiet.cons 29 rfl rfl rfl (OpJ.indexG (g := gt Pck.d l) (gt_get _) rfl rfl rfl sl24 el24 rfl (fun _ => rfl) (by decide) hk0) ?_
        refine AQuiet.cons 30 rfl rfl rfl (OpJ.fieldAddr rfl rfl fd36_1 rfl) ?_
        refine AQuiet.cons 31 rfl rfl rfl (OpJ.load (v := .p (intsV (gt Pck.d l i).colours)) rfl rfl ty34 rfl) ?_
        refine AQuiet.cons 32 rfl rfl rfl (OpJ.callP (ritems_nat _ hc48 hcc _ 0 (Nat.zero_le _) rfl) rfl rfl rfl rfl rf73) ?_
        refine AQuiet.cons 33 rfl rfl rfl (OpJ.strAdd _ _ rfl rfl rfl ?_) ?_
        · simp only [List.length_append, List.length_singleton]; omega
        refine AQuiet.cons 34 rfl rfl rfl (OpJ.strAdd _ [10] rfl rfl rfl ?_) ?_
        · simp only [List.length_append, List.length_singleton]; omega
        refine AQuiet.cons 4 rfl rfl rfl (OpJ.assign rfl rfl) ?_
        refine AQuiet.nil ?_
        refine AList.nil ?_
        refine AWp.region ?_
        refine AList.c 16 rfl rfl rfl (OpJ.move rfl rfl) ?_
        refine AList.c 17 rfl rfl rfl (OpJ.add rfl rfl rfl (i64ok ?_)) ?_
        · omega
        refine AList.c 5 rfl rfl rfl (OpJ.assign rfl rfl) ?_
        refine AList.nil ?_
        refine ⟨i + 1, ?_, ?_, ?_⟩
        · exact hk0
        · omega
        rw [← hst]
        exact To.done [] rfl (by repeat (first | exact Sub.nil | refine Sub.cons rfl ?_)) rfl
      · skip
        have hi : i = l.length := by have h := of_decide_eq_false hc2; omega
        subst hi
        refine AWp.exit ?_
        refine AWp.seq ?_
        refine AWp.region ?_
        refine AList.c 35 rfl rfl rfl (OpJ.move rfl rfl) ?_
        refine AList.c 2 rfl rfl rfl (OpJ.assign rfl rfl) ?_
        refine AList.c 3 rfl rfl rfl (OpJ.assign rfl rfl) ?_
        refine AList.nil ?_
        refine AWp.ret ?_
        refine Fin.manyE (xs := [.str (sB ((l.take l.length).flatMap pckT)), .int .i64 0]) rfl ⟨_, _, rfl, rfl, ⟨_, _, rfl, rfl, rfl⟩⟩ rfl ?_
        rw [wrP_of h30 hv, List.take_length]
        rfl
theorem lines_ok (s : Bs) (hs : s.length ≤ 65536) : Pure Tryd.prog 35 [.str (sB s)] (.tuple [lnsV (lnsG [] s), .bool (decide (((lnsF 0 0 s : Nat) : Int) = (s.length : Int)))]) := by
  refine Pure.start (N := 31) Tryd.func35 rfl rfl (Nat.le_of_ble_eq_true rfl) ?_
  refine AWp.seq ?_
  refine AWp.region ?_
  refine AList.c 2 rfl rfl rfl (OpJ.assign rfl rfl) ?_
  refine AList.c 3 rfl rfl rfl (OpJ.assign rfl rfl) ?_
  refine AList.nil ?_
  refine AWp.seq ?_
  refine AWp.region ?_
  refine AList.c 4 rfl rfl rfl (OpJ.assign rfl rfl) ?_
  refine AList.nil ?_
  refine AWp.seq ?_
  refine AWp.region ?_
  refine AList.c 5 rfl rfl rfl (OpJ.assign rfl rfl) ?_
  refine AList.nil ?_
  refine AWp.seq ?_
  refine AWp.seq ?_
  refine AWp.region ?_
  refine AList.c 6 rfl rfl rfl (OpJ.assign rfl rfl) ?_
  refine AList.nil ?_
  refine AWp.block ?_
  refine AWp.loopHL [0, 2, 3, 26, 27, 28, 29, 30] (fun (g : Nat × Nat × List Bs) => [(6, .p (.int .i64 ((g.1 : Nat) : Int))), (5, .p (.int .i64 ((g.2.1 : Nat) : Int))), (4, accV 0 g.2.2.length)]) (fun (g : Nat × Nat × List Bs) => [accB ((g.2.2.flatMap lnC).map .p) 9 g.2.2.length]) (fun (g : Nat × Nat × List Bs) => g.1 ≤ s.length ∧ g.2.1 ≤ g.1 ∧ g.2.2.length ≤ g.1 ∧ lnsG [] s = g.2.2 ++ lnsG ((s.drop g.2.1).take (g.1 - g.2.1)) (s.drop g.1) ∧ lnsF 0 0 s = lnsF g.2.1 g.1 (s.drop g.1)) (fun (g : Nat × Nat × List Bs) => s.length - g.1) (0, 0, []) ⟨Nat.zero_le _, Nat.le_refl _, Nat.le_refl _, rfl, rfl⟩ (To.pad.trans (To.sub (Sub.chk (Sub.cons rfl (Sub.cons rfl (Sub.cons rfl Sub.nil)))))) (fun g hg => ?_)
  obtain ⟨i, f, out⟩ := g
  obtain ⟨hi, hfi, hol, hI, hF⟩ := hg
  dsimp only at hi hfi hol hI hF ⊢
  refine AWp.seq ?_
  refine AWp.seq ?_
  refine AWp.region ?_
  refine AList.c 7 rfl rfl rfl (OpJ.move rfl rfl) ?_
  refine AList.c 8 rfl rfl rfl (OpJ.move rfl rfl) ?_
  refine AList.c 9 rfl rfl rfl (OpJ.lenStr rfl rfl un9) ?_
  refine AList.c 10 rfl rfl rfl (OpJ.lss rfl rfl rfl) ?_
  refine AList.nil ?_
  refine AWp.cond _ rfl (fun hc0 => ?_) (fun hc0 => ?_)
  · skip
    have hk0 : i < s.length := by have h := of_decide_eq_true hc0; rw [sB_size] at h; omega
    refine AWp.skip ?_
    refine AWp.seq ?_
    refine AWp.block ?_
    refine AWp.seq ?_
    refine AWp.region ?_
    refine AList.c 13 rfl rfl rfl (OpJ.move rfl rfl) ?_
    refine AList.c 14 rfl rfl rfl (OpJ.move rfl rfl) ?_
    refine AList.c 15 rfl rfl rfl (OpJ.strIx s i (gt 0 s i) rfl rfl rfl st9 (by rw [List.getElem?_eq_getElem hk0, gt_get 0 i hk0])) ?_
    refine AList.c 16 rfl rfl rfl (OpJ.eql rfl rfl rfl) ?_
    refine AList.nil ?_
    refine AWp.cond _ rfl (fun hc1 => ?_) (fun hc1 => ?_)
    · skip
      have hb : gt 0 s i = 10 := b10 hc1
      refine AWp.seq ?_
      refine AWp.region ?_
      refine AList.c 17 rfl rfl rfl (OpJ.move rfl rfl) ?_
      refine AList.c 18 rfl rfl rfl (OpJ.move rfl rfl) ?_
      refine AList.c 19 rfl rfl rfl (OpJ.move rfl rfl) ?_
      refine AList.c 20 rfl rfl rfl (OpJ.move rfl rfl) ?_
      refine AList.c 21 rfl rfl rfl (OpJ.strCut s f i rfl rfl st9 ⟨_, rfl⟩ ⟨_, rfl⟩ hfi (by omega)) ?_
      refine AList.c 22 rfl rfl rfl (OpJ.buildImm rfl slz90 (by decide) rfl rfl rfl) ?_
      refine AList.c 23 rfl rfl rfl (OpJ.appendAcc rfl rfl rfl slz90 sl90 rfl ?_ rfl (by decide) rfl by9 (by decide) ?_) ?_
      · rw [List.length_map, AF.flat_len (c := 1) (fun _ => rfl)]; rfl
      · show (2 * (out.length + 1) + 192) * 16 ≤ 281474976710656; omega
      refine AList.c 4 rfl rfl rfl (OpJ.assign rfl rfl) ?_
      refine AList.nil ?_
      refine AWp.region ?_
      refine AList.c 24 rfl rfl rfl (OpJ.move rfl rfl) ?_
      refine AList.c 25 rfl rfl rfl (OpJ.add (m := ((i + 1 : Nat) : Int)) rfl rfl rfl ((i64ok ?_).trans ?_)) ?_
      · omega
      · omega
      refine AList.c 5 rfl rfl rfl (OpJ.assign rfl rfl) ?_
      refine AList.nil ?_
      refine AWp.region ?_
      refine AList.c 11 rfl rfl rfl (OpJ.move rfl rfl) ?_
      refine AList.c 12 rfl rfl rfl (OpJ.add (m := ((i + 1 : Nat) : Int)) rfl rfl rfl ((i64ok ?_).trans ?_)) ?_
      · omega
      · omega
      refine AList.c 6 rfl rfl rfl (OpJ.assign rfl rfl) ?_
      refine AList.nil ?_
      refine ⟨(i + 1, i + 1, out ++ [(s.drop f).take (i - f)]), ?_, ?_, ?_⟩
      · obtain ⟨a, b⟩ := lns_yes hk0 hfi hb hI hF
        exact ⟨hk0, Nat.le_refl _, by rw [List.length_append]; show out.length + 1 ≤ i + 1; omega, a, b⟩
      · show s.length - (i + 1) < s.length - i
        omega
      have eLn : (out ++ [(s.drop f).take (i - f)]).length = out.length + 1 := by rw [List.length_append]; rfl
      have eL : (out ++ [(s.drop f).take (i - f)]).flatMap lnC = out.flatMap lnC ++ lnC ((s.drop f).take (i - f)) := by rw [List.flatMap_append]; simp
      dsimp only
      rw [eLn, eL]
      refine To.done [1] rfl (by repeat (first | exact Sub.nil | refine Sub.cons rfl ?_)) ?_
      show [Blk.row (renL _ (_ ++ _)) _] = [Blk.row _ _]
      rw [renL_app, renL_pure, List.map_append]
      rfl
    · skip
      have hb : gt 0 s i ≠ 10 := b10n hc1
      refine AWp.skip ?_
      refine AWp.region ?_
      refine AList.c 11 rfl rfl rfl (OpJ.move rfl rfl) ?_
      refine AList.c 12 rfl rfl rfl (OpJ.add (m := ((i + 1 : Nat) : Int)) rfl rfl rfl ((i64ok ?_).trans ?_)) ?_
      · omega
      · omega
      refine AList.c 6 rfl rfl rfl (OpJ.assign rfl rfl) ?_
      refine AList.nil ?_
      refine ⟨(i + 1, f, out), ?_, ?_, ?_⟩
      · obtain ⟨a, b⟩ := lns_no hk0 hfi hb hI hF
        exact ⟨hk0, by show f ≤ i + 1; omega, by show out.length ≤ i + 1; omega, a, b⟩
      · show s.length - (i + 1) < s.length - i
        omega
      exact To.sub (by repeat (first | exact Sub.nil | refine Sub.cons rfl ?_))
  · skip
    have hi2 : i = s.length := by have h := of_decide_eq_false hc0; rw [sB_size] at h; omega
    subst hi2
    obtain ⟨e1, e2⟩ := lns_end hI hF
    refine AWp.to (To.accD 4 0 out.length (xs := out.flatMap lnC) rfl rfl (fun h => by rw [List.length_eq_zero_iff.1 h]; rfl)) ?_
    refine AWp.exit ?_
    refine AWp.seq ?_
    refine AWp.region ?_
    refine AList.c 26 rfl rfl rfl (OpJ.move rfl rfl) ?_
    refine AList.c 27 rfl rfl rfl (OpJ.move rfl rfl) ?_
    refine AList.c 28 rfl rfl rfl (OpJ.move rfl rfl) ?_
    refine AList.c 29 rfl rfl rfl (OpJ.lenStr rfl rfl un9) ?_
    refine AList.c 30 rfl rfl rfl (OpJ.eql rfl rfl rfl) ?_
    refine AList.c 2 rfl rfl rfl (OpJ.assign rfl rfl) ?_
    refine AList.c 3 rfl rfl rfl (OpJ.assign rfl rfl) ?_
    refine AList.nil ?_
    refine AWp.ret ?_
    refine Fin.manyE (xs := [lnsV out, .bool (decide (((f : Nat) : Int) = (s.length : Int)))]) rfl ⟨_, _, rfl, rfl, ⟨_, _, rfl, rfl, rfl⟩⟩ rfl ?_
    rw [e1, e2]
end Go.Proofs.YtplofbjppcbchaaDoor
end

section
set_option linter.unusedVariables false
set_option maxRecDepth 100000
set_option maxHeartbeats 4000000
set_option linter.unusedSimpArgs false
namespace Go.Proofs.YtplofbjppcbchaaDoor
open Go.AF
theorem packOf_ok (s : Bs) : Pure Tryd.prog 36 [.str (sB s)] (.agg (packOfP s).cells) := by
  refine Pure.start (N := 115) Tryd.func36 rfl rfl (Nat.le_of_ble_eq_true rfl) ?_
  refine AWp.seq ?_
  refine AWp.region ?_
  refine AList.c 2 rfl rfl rfl (OpJ.allocOwn rfl zr36 rfl) ?_
  refine AList.nil ?_
  refine AWp.seq ?_
  refine AWp.region ?_
  refine AList.c 3 rfl rfl rfl (OpJ.allocOwn rfl zr36 rfl) ?_
  refine AList.nil ?_
  refine AWp.seq ?_
  refine AWp.region ?_
  refine AList.c 17 rfl rfl rfl (OpJ.move rfl rfl) ?_
  refine AList.c 18 rfl rfl rfl (OpJ.callP (figure_ok _) rfl rfl rfl rfl rf69) ?_
  refine AList.c 16 rfl rfl rfl (OpJ.move rfl rfl) ?_
  refine AList.c 19 rfl rfl rfl (OpJ.extract rfl rfl rfl) ?_
  refine AList.c 20 rfl rfl rfl (OpJ.extract rfl rfl rfl) ?_
  refine AList.c 4 rfl rfl rfl (OpJ.assign rfl rfl) ?_
  refine AList.c 5 rfl rfl rfl (OpJ.assign rfl rfl) ?_
  refine AList.nil ?_
  refine AWp.seq ?_
  refine AWp.region ?_
  refine AList.c 21 rfl rfl rfl (OpJ.move rfl rfl) ?_
  refine AList.c 22 rfl rfl rfl (OpJ.fieldAddr rfl rfl fd36_0 rfl) ?_
  refine AList.c0 rfl rfl (OpJ.store rfl rfl rfl rfl rfl ty3 rfl rfl) ?_
  refine AList.nil ?_
  refine AWp.seq ?_
  refine AWp.region ?_
  refine AList.c 24 rfl rfl rfl (OpJ.move rfl rfl) ?_
  refine AList.c 25 rfl rfl rfl (OpJ.move rfl rfl) ?_
  refine AList.c 26 rfl rfl rfl (OpJ.strCut s (figP s).2 s.length rfl rfl st9 ⟨_, rfl⟩ rfl (fig_le s) (Nat.le_refl _)) ?_
  rw [cut_all]
  refine AList.c 27 rfl rfl rfl (OpJ.callP (after_ok (s.drop (figP s).2) [58]) rfl rfl rfl rfl rf70) ?_
  refine AList.c 23 rfl rfl rfl (OpJ.move rfl rfl) ?_
  refine AList.c 28 rfl rfl rfl (OpJ.extract rfl rfl rfl) ?_
  refine AList.c 29 rfl rfl rfl (OpJ.extract rfl rfl rfl) ?_
  refine AList.c 6 rfl rfl rfl (OpJ.assign rfl rfl) ?_
  refine AList.c 7 rfl rfl rfl (OpJ.assign rfl rfl) ?_
  refine AList.nil ?_
  refine AWp.seq ?_
  refine AWp.block ?_
  refine AWp.loopHL [2, 3, 114] (fun (g : Bool × List Int × Bs) => [(6, .p (.str (sB g.2.2))), (7, .p (.bool g.1))]) (fun (g : Bool × List Int × Bs) => [.cells [.p (.int .i64 0), .p .nilSlice] 36, .cells [.p (.int .i64 (((figP s).1 : Nat) : Int)), accV 2 g.2.1.length] 36, accB ((g.2.1.flatMap intC).map .p) 3 g.2.1.length]) (fun (g : Bool × List Int × Bs) => g.2.1.length ≤ 49 ∧ (packOfP s).colours = pkFin g.1 g.2.1 g.2.2) (fun (g : Bool × List Int × Bs) => g.2.2.length) (preB [58] (s.drop (figP s).2), [], (if preB [58] (s.drop (figP s).2) then (s.drop (figP s).2).drop 1 else [])) ⟨Nat.zero_le _, rfl⟩ (To.pad.trans (To.sub (Sub.chk (Sub.cons rfl (Sub.cons rfl Sub.nil))))) (fun g hg => ?_)
  obtain ⟨b, acc, q⟩ := g
  obtain ⟨ha, hI⟩ := hg
  dsimp only at ha hI ⊢
  refine AWp.seq ?_
  refine AWp.seq ?_
  refine AWp.region ?_
  refine AList.c 30 rfl rfl rfl (OpJ.move rfl rfl) ?_
  refine AList.c 31 rfl rfl rfl (OpJ.move rfl rfl) ?_
  refine AList.g 32 31 rfl rfl rfl rfl rfl rfl rfl [(3, _)] (fun h => And.intro (.inl rfl) (trivial)) (fun h => (OpJ.fieldAddr rfl rfl fd36_1 rfl)) ?_
  refine AList.g 33 31 rfl rfl rfl rfl rfl rfl rfl [(32, _)] (fun h => And.intro (.inr ⟨_, rfl, h⟩) (trivial)) (fun h => (OpJ.load (v := accV 2 acc.length) rfl rfl ty34 rfl)) ?_
  refine AList.g 34 31 rfl rfl rfl rfl rfl rfl rfl [(33, _)] (fun h => And.intro (.inr ⟨_, rfl, h⟩) (trivial)) (fun h => (OpJ.lenSlice rfl rfl sl34 (alen_acc _ _))) ?_
  refine AList.g 35 31 rfl rfl rfl rfl rfl rfl rfl [(34, _)] (fun h => And.intro (.inr ⟨_, rfl, h⟩) (trivial)) (fun h => (OpJ.leq rfl rfl rfl)) ?_
  refine AList.c 36 rfl rfl rfl (OpJ.and_ rfl rfl rfl ?_) ?_
  · first | (intro h; rw [h]; rfl) | (intro h; simp_all)
  refine AList.nil ?_
  refine AWp.cond _ rfl (fun hc0 => ?_) (fun hc0 => ?_)
  · skip
    obtain ⟨rfl, ha48⟩ := pk_in hc0
    refine AWp.skip ?_
    refine AWp.block ?_
    refine AWp.seq ?_
    refine AWp.region ?_
    refine AList.c 38 rfl rfl rfl (OpJ.move rfl rfl) ?_
    refine AList.c 39 rfl rfl rfl (OpJ.callP (after_ok q [32]) rfl rfl rfl rfl rf70) ?_
    refine AList.c 37 rfl rfl rfl (OpJ.move rfl rfl) ?_
    refine AList.c 40 rfl rfl rfl (OpJ.extract rfl rfl rfl) ?_
    refine AList.c 41 rfl rfl rfl (OpJ.extract rfl rfl rfl) ?_
    refine AList.c 6 rfl rfl rfl (OpJ.assign rfl rfl) ?_
    refine AList.c 7 rfl rfl rfl (OpJ.assign rfl rfl) ?_
    refine AList.nil ?_
    refine AWp.seq ?_
    refine AWp.region ?_
    refine AList.c 43 rfl rfl rfl (OpJ.move rfl rfl) ?_
    refine AList.c 44 rfl rfl rfl (OpJ.callP (figure_ok (if preB [32] q then q.drop 1 else [])) rfl rfl rfl rfl rf69) ?_
    refine AList.c 42 rfl rfl rfl (OpJ.move rfl rfl) ?_
    refine AList.c 45 rfl rfl rfl (OpJ.extract rfl rfl rfl) ?_
    refine AList.c 46 rfl rfl rfl (OpJ.extract rfl rfl rfl) ?_
    refine AList.c 8 rfl rfl rfl (OpJ.assign rfl rfl) ?_
    refine AList.c 9 rfl rfl rfl (OpJ.assign rfl rfl) ?_
    refine AList.nil ?_
    refine AWp.seq ?_
    refine AWp.seq ?_
    refine AWp.region ?_
    refine AList.c 47 rfl rfl rfl (OpJ.move rfl rfl) ?_
    refine AList.c 48 rfl rfl rfl (OpJ.not_ rfl rfl) ?_
    refine AList.c 49 rfl rfl rfl (OpJ.move rfl rfl) ?_
    refine AList.g 50 49 rfl rfl rfl rfl rfl rfl rfl [(9, _)] (fun h => And.intro (.inl rfl) (trivial)) (fun h => (OpJ.move rfl rfl)) ?_
    refine AList.g 51 49 rfl rfl rfl rfl rfl rfl rfl [(50, _)] (fun h => And.intro (.inr ⟨_, rfl, h⟩) (trivial)) (fun h => (OpJ.eql rfl rfl rfl)) ?_
    refine AList.c 52 rfl rfl rfl (OpJ.or_ rfl rfl rfl ?_) ?_
    · first | (intro h; rw [h]; rfl) | (intro h; simp_all)
    refine AList.nil ?_
    refine AWp.cond _ rfl (fun hc1 => ?_) (fun hc1 => ?_)
    · skip
      have hF : (packOfP s).colours = acc := by rw [hI]; unfold pkFin; rw [if_pos rfl]; exact pkP_stop (pk_brk hc1)
      refine AWp.to (To.accC 2 1 (xs := acc.flatMap intC) (n := acc.length) (a := [.int .i64 ((figP s).1 : Nat)]) (b := []) [(2, .ptr 0 0), (3, .ptr 1 0)] (by decide) rfl rfl (fun h => by rw [List.length_eq_zero_iff.1 h]; rfl) rfl rfl (by repeat (first | exact Sub.nil | refine Sub.cons rfl ?_)) (by repeat (first | exact Sub.nil | refine Sub.cons rfl ?_))) ?_
      refine AWp.exit ?_
      refine AWp.seq ?_
      refine AWp.region ?_
      refine AList.c 114 rfl rfl rfl (OpJ.load (v := .p (.agg (Pck.mk ((figP s).1 : Nat) acc).cells)) rfl rfl ty36 rfl) ?_
      refine AList.c0 rfl rfl (OpJ.store rfl rfl rfl rfl rfl ty36 rfl rfl) ?_
      refine AList.nil ?_
      refine AWp.ret ?_
      rw [show (packOfP s).cells = (Pck.mk ((figP s).1 : Nat) acc).cells by unfold Pck.cells; rw [← hF]; rfl]
      exact Fin.one rfl (⟨_, _, _, rfl, ty36, rfl⟩)
    · skip
      obtain ⟨hp, hm0⟩ := pk_go hc1
      have hA : (if preB [32] q then q.drop 1 else []) = (q.drop 1) := if_pos hp
      rw [show (if preB [32] q = true then List.drop ([32] : Bs).length q else []) = (q.drop 1) from hA]
      rw [hA]
      have hfl := fig_lt (q.drop 1)
      refine AWp.skip ?_
      refine AWp.seq ?_
      refine AWp.region ?_
      refine AList.c 53 rfl rfl rfl (OpJ.move rfl rfl) ?_
      refine AList.c 54 rfl rfl rfl (OpJ.move rfl rfl) ?_
      refine AList.c 55 rfl rfl rfl (OpJ.strCut (q.drop 1) (figP (q.drop 1)).2 (q.drop 1).length rfl rfl st9 ⟨_, rfl⟩ rfl (fig_le _) (Nat.le_refl _)) ?_
      rw [cut_all]
      refine AList.c 6 rfl rfl rfl (OpJ.assign rfl rfl) ?_
      refine AList.nil ?_
      refine AWp.seq ?_
      refine AWp.region ?_
      refine AList.c 56 rfl rfl rfl (OpJ.move rfl rfl) ?_
      refine AList.c 10 rfl rfl rfl (OpJ.assign rfl rfl) ?_
      refine AList.c 11 rfl rfl rfl (OpJ.assign rfl rfl) ?_
      refine AList.nil ?_
      refine AWp.seq ?_
      refine AWp.region ?_
      refine AList.c 58 rfl rfl rfl (OpJ.move rfl rfl) ?_
      refine AList.c 59 rfl rfl rfl (OpJ.callP (after_ok ((q.drop 1).drop (figP (q.drop 1)).2) [120]) rfl rfl rfl rfl rf70) ?_
      refine AList.c 57 rfl rfl rfl (OpJ.move rfl rfl) ?_
      refine AList.c 60 rfl rfl rfl (OpJ.extract rfl rfl rfl) ?_
      refine AList.c 61 rfl rfl rfl (OpJ.extract rfl rfl rfl) ?_
      refine AList.c 12 rfl rfl rfl (OpJ.assign rfl rfl) ?_
      refine AList.c 13 rfl rfl rfl (OpJ.assign rfl rfl) ?_
      refine AList.nil ?_
      refine AWp.join (fun (g : Unit) => [(2, .ptr 0 0), (3, .ptr 1 0), (6, .p (.str (sB (xP ((q.drop 1).drop (figP (q.drop 1)).2)).2))), (7, .p (.bool (preB [32] q))), (8, .p (.int .i64 ((figP (q.drop 1)).1 : Nat))), (10, .p (.int .i64 ((xP ((q.drop 1).drop (figP (q.drop 1)).2)).1 : Nat))), (11, .p (.int .i64 ((figP (q.drop 1)).1 : Nat)))]) (fun (g : Unit) => [.cells [.p (.int .i64 0), .p .nilSlice] 36, .cells [.p (.int .i64 (((figP s).1 : Nat) : Int)), accV 2 acc.length] 36, accB ((acc.flatMap intC).map .p) 3 acc.length]) (fun (g : Unit) => True) ?_ (fun g hg => ?_)
      · skip
        refine AWp.seq ?_
        refine AWp.region ?_
        refine AList.c 62 rfl rfl rfl (OpJ.move rfl rfl) ?_
        refine AList.nil ?_
        refine AWp.cond _ rfl (fun hc2 => ?_) (fun hc2 => ?_)
        · skip
          have hp2 : preB [120] ((q.drop 1).drop (figP (q.drop 1)).2) = true := hc2
          rw [show (if preB [120] ((q.drop 1).drop (figP (q.drop 1)).2) = true then List.drop ([120] : Bs).length ((q.drop 1).drop (figP (q.drop 1)).2) else []) = ((q.drop 1).drop (figP (q.drop 1)).2).drop 1 from if_pos hp2]
          refine AWp.seq ?_
          refine AWp.region ?_
          refine AList.c 64 rfl rfl rfl (OpJ.move rfl rfl) ?_
          refine AList.c 65 rfl rfl rfl (OpJ.callP (figure_ok (((q.drop 1).drop (figP (q.drop 1)).2).drop 1)) rfl rfl rfl rfl rf69) ?_
          refine AList.c 63 rfl rfl rfl (OpJ.move rfl rfl) ?_
          refine AList.c 66 rfl rfl rfl (OpJ.extract rfl rfl rfl) ?_
          refine AList.c 67 rfl rfl rfl (OpJ.extract rfl rfl rfl) ?_
          refine AList.c 10 rfl rfl rfl (OpJ.assign rfl rfl) ?_
          refine AList.c 9 rfl rfl rfl (OpJ.assign rfl rfl) ?_
          refine AList.nil ?_
          refine AWp.region ?_
          refine AList.c 68 rfl rfl rfl (OpJ.move rfl rfl) ?_
          refine AList.c 69 rfl rfl rfl (OpJ.move rfl rfl) ?_
          refine AList.c 70 rfl rfl rfl (OpJ.strCut (((q.drop 1).drop (figP (q.drop 1)).2).drop 1) (figP (((q.drop 1).drop (figP (q.drop 1)).2).drop 1)).2 (((q.drop 1).drop (figP (q.drop 1)).2).drop 1).length rfl rfl st9 ⟨_, rfl⟩ rfl (fig_le _) (Nat.le_refl _)) ?_
          rw [cut_all]
          refine AList.c 6 rfl rfl rfl (OpJ.assign rfl rfl) ?_
          refine AList.nil ?_
          rw [xP_yes hp2]
          exact ⟨(), trivial, To.sub (by repeat (first | exact Sub.nil | refine Sub.cons rfl ?_))⟩
        · skip
          have hp2 : preB [120] ((q.drop 1).drop (figP (q.drop 1)).2) = false := hc2
          refine AWp.skip ?_
          rw [xP_no hp2]
          exact ⟨(), trivial, To.sub (by repeat (first | exact Sub.nil | refine Sub.cons rfl ?_))⟩
      · skip
        refine AWp.seq ?_
        refine AWp.region ?_
        refine AList.c 72 rfl rfl rfl (OpJ.move rfl rfl) ?_
        refine AList.c 73 rfl rfl rfl (OpJ.callP (after_ok (xP ((q.drop 1).drop (figP (q.drop 1)).2)).2 [45]) rfl rfl rfl rfl rf70) ?_
        refine AList.c 71 rfl rfl rfl (OpJ.move rfl rfl) ?_
        refine AList.c 74 rfl rfl rfl (OpJ.extract rfl rfl rfl) ?_
        refine AList.c 75 rfl rfl rfl (OpJ.extract rfl rfl rfl) ?_
        refine AList.c 12 rfl rfl rfl (OpJ.assign rfl rfl) ?_
        refine AList.c 13 rfl rfl rfl (OpJ.assign rfl rfl) ?_
        refine AList.nil ?_
        refine AWp.join (fun (g : Unit) => [(2, .ptr 0 0), (3, .ptr 1 0), (6, .p (.str (sB (tP (figP (q.drop 1)).1 (xP ((q.drop 1).drop (figP (q.drop 1)).2)).2).2))), (7, .p (.bool (preB [32] q))), (8, .p (.int .i64 ((figP (q.drop 1)).1 : Nat))), (10, .p (.int .i64 ((xP ((q.drop 1).drop (figP (q.drop 1)).2)).1 : Nat))), (11, .p (.int .i64 ((tP (figP (q.drop 1)).1 (xP ((q.drop 1).drop (figP (q.drop 1)).2)).2).1 : Nat)))]) (fun (g : Unit) => [.cells [.p (.int .i64 0), .p .nilSlice] 36, .cells [.p (.int .i64 (((figP s).1 : Nat) : Int)), accV 2 acc.length] 36, accB ((acc.flatMap intC).map .p) 3 acc.length]) (fun (g : Unit) => True) ?_ (fun g hg => ?_)
        · skip
          refine AWp.seq ?_
          refine AWp.region ?_
          refine AList.c 76 rfl rfl rfl (OpJ.move rfl rfl) ?_
          refine AList.nil ?_
          refine AWp.cond _ rfl (fun hc3 => ?_) (fun hc3 => ?_)
          · skip
            have hp3 : preB [45] (xP ((q.drop 1).drop (figP (q.drop 1)).2)).2 = true := hc3
            rw [show (if preB [45] (xP ((q.drop 1).drop (figP (q.drop 1)).2)).2 = true then List.drop ([45] : Bs).length (xP ((q.drop 1).drop (figP (q.drop 1)).2)).2 else []) = (xP ((q.drop 1).drop (figP (q.drop 1)).2)).2.drop 1 from if_pos hp3]
            refine AWp.seq ?_
            refine AWp.region ?_
            refine AList.c 78 rfl rfl rfl (OpJ.move rfl rfl) ?_
            refine AList.c 79 rfl rfl rfl (OpJ.callP (figure_ok ((xP ((q.drop 1).drop (figP (q.drop 1)).2)).2.drop 1)) rfl rfl rfl rfl rf69) ?_
            refine AList.c 77 rfl rfl rfl (OpJ.move rfl rfl) ?_
            refine AList.c 80 rfl rfl rfl (OpJ.extract rfl rfl rfl) ?_
            refine AList.c 81 rfl rfl rfl (OpJ.extract rfl rfl rfl) ?_
            refine AList.c 11 rfl rfl rfl (OpJ.assign rfl rfl) ?_
            refine AList.c 9 rfl rfl rfl (OpJ.assign rfl rfl) ?_
            refine AList.nil ?_
            refine AWp.region ?_
            refine AList.c 82 rfl rfl rfl (OpJ.move rfl rfl) ?_
            refine AList.c 83 rfl rfl rfl (OpJ.move rfl rfl) ?_
            refine AList.c 84 rfl rfl rfl (OpJ.strCut ((xP ((q.drop 1).drop (figP (q.drop 1)).2)).2.drop 1) (figP ((xP ((q.drop 1).drop (figP (q.drop 1)).2)).2.drop 1)).2 ((xP ((q.drop 1).drop (figP (q.drop 1)).2)).2.drop 1).length rfl rfl st9 ⟨_, rfl⟩ rfl (fig_le _) (Nat.le_refl _)) ?_
            rw [cut_all]
            refine AList.c 6 rfl rfl rfl (OpJ.assign rfl rfl) ?_
            refine AList.nil ?_
            rw [tP_yes hp3]
            exact ⟨(), trivial, To.sub (by repeat (first | exact Sub.nil | refine Sub.cons rfl ?_))⟩
          · skip
            have hp3 : preB [45] (xP ((q.drop 1).drop (figP (q.drop 1)).2)).2 = false := hc3
            refine AWp.skip ?_
            rw [tP_no hp3]
            exact ⟨(), trivial, To.sub (by repeat (first | exact Sub.nil | refine Sub.cons rfl ?_))⟩
        · skip
          refine AWp.seq ?_
          refine AWp.region ?_
          refine AList.c 85 rfl rfl rfl (OpJ.move rfl rfl) ?_
          refine AList.c 14 rfl rfl rfl (OpJ.assign rfl rfl) ?_
          refine AList.nil ?_
          refine AWp.block ?_
          refine AWp.loopHL [2, 3, 6, 7, 8, 9, 10, 11, 12, 13, 30, 31, 32, 34, 35, 36, 37, 38, 39, 40, 41, 42, 43, 44, 45, 46, 47, 48, 49, 50, 51, 52, 53, 54, 55, 56, 57, 58, 59, 60, 61, 62, 63, 64, 65, 66, 67, 68, 69, 70, 71, 72, 73, 74, 75, 76, 77, 78, 79, 80, 81, 82, 83, 84, 85, 114] (fun (j : Nat) => [(14, .p (.int .i64 (((figP (q.drop 1)).1 : Int) + (j : Int))))]) (fun (j : Nat) => [.cells [.p (.int .i64 0), .p .nilSlice] 36, .cells [.p (.int .i64 (((figP s).1 : Nat) : Int)), accV 2 ((acc ++ spT (figP (q.drop 1)).1 (xP ((q.drop 1).drop (figP (q.drop 1)).2)).1 j).take 49).length] 36, accB ((((acc ++ spT (figP (q.drop 1)).1 (xP ((q.drop 1).drop (figP (q.drop 1)).2)).1 j).take 49).flatMap intC).map .p) 3 ((acc ++ spT (figP (q.drop 1)).1 (xP ((q.drop 1).drop (figP (q.drop 1)).2)).1 j).take 49).length]) (fun (j : Nat) => j ≤ ((tP (figP (q.drop 1)).1 (xP ((q.drop 1).drop (figP (q.drop 1)).2)).2).1 + 1 - (figP (q.drop 1)).1)) (fun (j : Nat) => ((tP (figP (q.drop 1)).1 (xP ((q.drop 1).drop (figP (q.drop 1)).2)).2).1 + 1 - (figP (q.drop 1)).1) - j) 0 (Nat.zero_le _) (To.eqH (To.sub (Sub.chk (Sub.cons (by show some (V.p (PV.int .i64 ((figP (q.drop 1)).1 : Int))) = _; rw [Int.natCast_zero, Int.add_zero]) Sub.nil))) (by rw [show spT (figP (q.drop 1)).1 (xP ((q.drop 1).drop (figP (q.drop 1)).2)).1 0 = [] from rfl, List.append_nil, List.take_of_length_le ha])) (fun j hj => ?_)
          refine AWp.seq ?_
          refine AWp.seq ?_
          refine AWp.region ?_
          refine AList.c 86 rfl rfl rfl (OpJ.move rfl rfl) ?_
          refine AList.c 87 rfl rfl rfl (OpJ.move rfl rfl) ?_
          refine AList.c 88 rfl rfl rfl (OpJ.leq rfl rfl rfl) ?_
          refine AList.c 89 rfl rfl rfl (OpJ.move rfl rfl) ?_
          refine AList.g 90 89 rfl rfl rfl rfl rfl rfl rfl [(3, _)] (fun h => And.intro (.inl rfl) (trivial)) (fun h => (OpJ.fieldAddr rfl rfl fd36_1 rfl)) ?_
          refine AList.g 91 89 rfl rfl rfl rfl rfl rfl rfl [(90, _)] (fun h => And.intro (.inr ⟨_, rfl, h⟩) (trivial)) (fun h => (OpJ.load (v := accV 2 ((acc ++ spT (figP (q.drop 1)).1 (xP ((q.drop 1).drop (figP (q.drop 1)).2)).1 j).take 49).length) rfl rfl ty34 rfl)) ?_
          refine AList.g 92 89 rfl rfl rfl rfl rfl rfl rfl [(91, _)] (fun h => And.intro (.inr ⟨_, rfl, h⟩) (trivial)) (fun h => (OpJ.lenSlice rfl rfl sl34 (alen_acc _ _))) ?_
          refine AList.g 93 89 rfl rfl rfl rfl rfl rfl rfl [(92, _)] (fun h => And.intro (.inr ⟨_, rfl, h⟩) (trivial)) (fun h => (OpJ.leq rfl rfl rfl)) ?_
          refine AList.c 94 rfl rfl rfl (OpJ.and_ rfl rfl rfl ?_) ?_
          · first | (intro h; rw [h]; rfl) | (intro h; simp_all)
          refine AList.nil ?_
          refine AWp.cond _ rfl (fun hc4 => ?_) (fun hc4 => ?_)
          · skip
            obtain ⟨hj0, hj48⟩ := sp_go hc4
            have hX := take_all hj48
            have htl := tP_lt (figP (q.drop 1)).1 (xP ((q.drop 1).drop (figP (q.drop 1)).2)).2 hfl
            refine AWp.skip ?_
            refine AWp.seq ?_
            refine AWp.block ?_
            refine AWp.seq ?_
            refine AWp.region ?_
            refine AList.c 15 rfl rfl rfl (OpJ.assign rfl rfl) ?_
            refine AList.nil ?_
            refine AWp.block ?_
            refine AWp.loopHL [2, 3, 6, 7, 8, 9, 10, 11, 12, 13, 14, 30, 31, 32, 34, 35, 36, 37, 38, 39, 40, 41, 42, 43, 44, 45, 46, 47, 48, 49, 50, 51, 52, 53, 54, 55, 56, 57, 58, 59, 60, 61, 62, 63, 64, 65, 66, 67, 68, 69, 70, 71, 72, 73, 74, 75, 76, 77, 78, 79, 80, 81, 82, 83, 84, 85, 86, 87, 88, 89, 90, 92, 93, 94, 95, 96, 114] (fun (t : Nat) => [(15, .p (.int .i64 ((t : Nat) : Int)))]) (fun (t : Nat) => [.cells [.p (.int .i64 0), .p .nilSlice] 36, .cells [.p (.int .i64 (((figP s).1 : Nat) : Int)), accV 2 ((acc ++ spT (figP (q.drop 1)).1 (xP ((q.drop 1).drop (figP (q.drop 1)).2)).1 j ++ List.replicate t (((figP (q.drop 1)).1 : Int) + (j : Int))).take 49).length] 36, accB ((((acc ++ spT (figP (q.drop 1)).1 (xP ((q.drop 1).drop (figP (q.drop 1)).2)).1 j ++ List.replicate t (((figP (q.drop 1)).1 : Int) + (j : Int))).take 49).flatMap intC).map .p) 3 ((acc ++ spT (figP (q.drop 1)).1 (xP ((q.drop 1).drop (figP (q.drop 1)).2)).1 j ++ List.replicate t (((figP (q.drop 1)).1 : Int) + (j : Int))).take 49).length]) (fun (t : Nat) => t ≤ (xP ((q.drop 1).drop (figP (q.drop 1)).2)).1) (fun (t : Nat) => (xP ((q.drop 1).drop (figP (q.drop 1)).2)).1 - t) 0 (Nat.zero_le _) (To.eqH (To.sub (Sub.chk (Sub.cons rfl Sub.nil))) (by rw [List.replicate_zero, List.append_nil])) (fun t ht => ?_)
            refine AWp.seq ?_
            refine AWp.seq ?_
            refine AWp.region ?_
            refine AList.c 97 rfl rfl rfl (OpJ.move rfl rfl) ?_
            refine AList.c 98 rfl rfl rfl (OpJ.move rfl rfl) ?_
            refine AList.c 99 rfl rfl rfl (OpJ.lss rfl rfl rfl) ?_
            refine AList.c 100 rfl rfl rfl (OpJ.move rfl rfl) ?_
            refine AList.g 101 100 rfl rfl rfl rfl rfl rfl rfl [(3, _)] (fun h => And.intro (.inl rfl) (trivial)) (fun h => (OpJ.fieldAddr rfl rfl fd36_1 rfl)) ?_
            refine AList.g 102 100 rfl rfl rfl rfl rfl rfl rfl [(101, _)] (fun h => And.intro (.inr ⟨_, rfl, h⟩) (trivial)) (fun h => (OpJ.load (v := accV 2 ((acc ++ spT (figP (q.drop 1)).1 (xP ((q.drop 1).drop (figP (q.drop 1)).2)).1 j ++ List.replicate t (((figP (q.drop 1)).1 : Int) + (j : Int))).take 49).length) rfl rfl ty34 rfl)) ?_
            refine AList.g 103 100 rfl rfl rfl rfl rfl rfl rfl [(102, _)] (fun h => And.intro (.inr ⟨_, rfl, h⟩) (trivial)) (fun h => (OpJ.lenSlice rfl rfl sl34 (alen_acc _ _))) ?_
            refine AList.g 104 100 rfl rfl rfl rfl rfl rfl rfl [(103, _)] (fun h => And.intro (.inr ⟨_, rfl, h⟩) (trivial)) (fun h => (OpJ.leq rfl rfl rfl)) ?_
            refine AList.c 105 rfl rfl rfl (OpJ.and_ rfl rfl rfl ?_) ?_
            · first | (intro h; rw [h]; rfl) | (intro h; simp_all)
            refine AList.nil ?_
            refine AWp.cond _ rfl (fun hc5 => ?_) (fun hc5 => ?_)
            · skip
              obtain ⟨ht0, ht48⟩ : t < (xP ((q.drop 1).drop (figP (q.drop 1)).2)).1 ∧ ((acc ++ spT (figP (q.drop 1)).1 (xP ((q.drop 1).drop (figP (q.drop 1)).2)).1 j ++ List.replicate t (((figP (q.drop 1)).1 : Int) + (j : Int))).take 49).length ≤ 48 := rp_go hc5
              have hxl := xP_lt ((q.drop 1).drop (figP (q.drop 1)).2)
              refine AWp.skip ?_
              refine AWp.seq ?_
              refine AWp.block ?_
              refine AWp.region ?_
              refine AList.c 108 rfl rfl rfl (OpJ.fieldAddr rfl rfl fd36_1 rfl) ?_
              refine AList.c 109 rfl rfl rfl (OpJ.load (v := accV 2 ((acc ++ spT (figP (q.drop 1)).1 (xP ((q.drop 1).drop (figP (q.drop 1)).2)).1 j ++ List.replicate t (((figP (q.drop 1)).1 : Int) + (j : Int))).take 49).length) rfl rfl ty34 rfl) ?_
              refine AList.c 110 rfl rfl rfl (OpJ.move rfl rfl) ?_
              refine AList.c 111 rfl rfl rfl (OpJ.buildImm rfl slz34 (by decide) rfl rfl rfl) ?_
              refine AList.c 112 rfl rfl rfl (OpJ.appendAcc rfl rfl rfl slz34 sl34 rfl ?_ rfl (by decide) rfl by3 (by decide) ?_) ?_
              · rw [List.length_map, AF.flat_len (c := 1) (fun _ => rfl)]; rfl
              · show (2 * (((acc ++ spT (figP (q.drop 1)).1 (xP ((q.drop 1).drop (figP (q.drop 1)).2)).1 j ++ List.replicate t (((figP (q.drop 1)).1 : Int) + (j : Int))).take 49).length + 1) + 192) * 8 ≤ 281474976710656; omega
              refine AList.c 113 rfl rfl rfl (OpJ.fieldAddr rfl rfl fd36_1 rfl) ?_
              refine AList.c0 rfl rfl (OpJ.storeVac (H' := [.cells [.p (.int .i64 0), .p .nilSlice] 36, .cells [.p (.int .i64 ((figP s).1 : Nat)), accV 3 (((acc ++ spT (figP (q.drop 1)).1 (xP ((q.drop 1).drop (figP (q.drop 1)).2)).1 j ++ List.replicate t (((figP (q.drop 1)).1 : Int) + (j : Int))).take 49).length + 1)] 36, .dead, accB (((((acc ++ spT (figP (q.drop 1)).1 (xP ((q.drop 1).drop (figP (q.drop 1)).2)).1 j ++ List.replicate t (((figP (q.drop 1)).1 : Int) + (j : Int))).take 49)).flatMap intC).map .p ++ [.p (.int .i64 (((figP (q.drop 1)).1 : Int) + (j : Int)))]) 3 (((acc ++ spT (figP (q.drop 1)).1 (xP ((q.drop 1).drop (figP (q.drop 1)).2)).1 j ++ List.replicate t (((figP (q.drop 1)).1 : Int) + (j : Int))).take 49).length + 1)]) rfl rfl rfl ty34 rfl) ?_
              refine AList.nil ?_
              refine AWp.region ?_
              refine AList.c 106 rfl rfl rfl (OpJ.move rfl rfl) ?_
              refine AList.c 107 rfl rfl rfl (OpJ.add (m := ((t + 1 : Nat) : Int)) rfl rfl rfl ((i64ok ?_).trans ?_)) ?_
              · omega
              · omega
              refine AList.c 15 rfl rfl rfl (OpJ.assign rfl rfl) ?_
              refine AList.nil ?_
              refine ⟨t + 1, ?_, ?_, ?_⟩
              · exact ht0
              · omega
              have eS := rep_next (X := acc ++ spT (figP (q.drop 1)).1 (xP ((q.drop 1).drop (figP (q.drop 1)).2)).1 j) (c := (((figP (q.drop 1)).1 : Int) + (j : Int))) (t := t) ht48
              have eL : ((acc ++ spT (figP (q.drop 1)).1 (xP ((q.drop 1).drop (figP (q.drop 1)).2)).1 j ++ List.replicate (t + 1) (((figP (q.drop 1)).1 : Int) + (j : Int))).take 49).length = ((acc ++ spT (figP (q.drop 1)).1 (xP ((q.drop 1).drop (figP (q.drop 1)).2)).1 j ++ List.replicate t (((figP (q.drop 1)).1 : Int) + (j : Int))).take 49).length + 1 := by rw [eS, List.length_append]; rfl
              have eC : ((acc ++ spT (figP (q.drop 1)).1 (xP ((q.drop 1).drop (figP (q.drop 1)).2)).1 j ++ List.replicate (t + 1) (((figP (q.drop 1)).1 : Int) + (j : Int))).take 49).flatMap intC = ((acc ++ spT (figP (q.drop 1)).1 (xP ((q.drop 1).drop (figP (q.drop 1)).2)).1 j ++ List.replicate t (((figP (q.drop 1)).1 : Int) + (j : Int))).take 49).flatMap intC ++ [.int .i64 (((figP (q.drop 1)).1 : Int) + (j : Int))] := by rw [eS, List.flatMap_append]; rfl
              rw [eL, eC]
              refine To.done [0, 1, 3] rfl (by repeat (first | exact Sub.nil | refine Sub.cons rfl ?_)) ?_
              show [_, Blk.cells [_, renV _ (accV 3 _)] _, Blk.row (renL _ (_ ++ _)) _] = [_, _, Blk.row _ _]
              rw [renL_app, renL_pure, List.map_append]
              rfl
            · skip
              have hend : ((acc ++ spT (figP (q.drop 1)).1 (xP ((q.drop 1).drop (figP (q.drop 1)).2)).1 j ++ List.replicate t (((figP (q.drop 1)).1 : Int) + (j : Int))).take 49) = ((acc ++ spT (figP (q.drop 1)).1 (xP ((q.drop 1).drop (figP (q.drop 1)).2)).1 (j + 1)).take 49) := by rw [spT_succ, ← List.append_assoc]; exact (rp_end ht hc5).symm
              have htl := tP_lt (figP (q.drop 1)).1 (xP ((q.drop 1).drop (figP (q.drop 1)).2)).2 hfl
              refine AWp.exit ?_
              refine AWp.region ?_
              refine AList.c 95 rfl rfl rfl (OpJ.move rfl rfl) ?_
              refine AList.c 96 rfl rfl rfl (OpJ.add (m := (((figP (q.drop 1)).1 : Int) + ((j + 1 : Nat) : Int))) rfl rfl rfl ((i64ok ?_).trans ?_)) ?_
              · omega
              · omega
              refine AList.c 14 rfl rfl rfl (OpJ.assign rfl rfl) ?_
              refine AList.nil ?_
              refine ⟨j + 1, ?_, ?_, ?_⟩
              · omega
              · omega
              rw [hend]
              exact To.sub (by repeat (first | exact Sub.nil | refine Sub.cons rfl ?_))
          · skip
            have hend : ((acc ++ spT (figP (q.drop 1)).1 (xP ((q.drop 1).drop (figP (q.drop 1)).2)).1 j).take 49) = ((acc ++ spT (figP (q.drop 1)).1 (xP ((q.drop 1).drop (figP (q.drop 1)).2)).1 ((tP (figP (q.drop 1)).1 (xP ((q.drop 1).drop (figP (q.drop 1)).2)).2).1 + 1 - (figP (q.drop 1)).1)).take 49) := (sp_end hj hc4).symm
            refine AWp.exit ?_
            refine ⟨(true, ((acc ++ spT (figP (q.drop 1)).1 (xP ((q.drop 1).drop (figP (q.drop 1)).2)).1 ((tP (figP (q.drop 1)).1 (xP ((q.drop 1).drop (figP (q.drop 1)).2)).2).1 + 1 - (figP (q.drop 1)).1)).take 49), (tP (figP (q.drop 1)).1 (xP ((q.drop 1).drop (figP (q.drop 1)).2)).2).2), ?_, ?_, ?_⟩
            · exact ⟨by rw [List.length_take]; omega, by rw [hI]; unfold pkFin; rw [if_pos rfl, if_pos rfl, pkP_step ha48 hp hm0]; rfl⟩
            · have h1 := itP_len (q.drop 1)
              rw [List.length_drop] at h1
              have h2 := pre_len hp
              show (tP (figP (q.drop 1)).1 (xP ((q.drop 1).drop (figP (q.drop 1)).2)).2).2.length < q.length
              show (itP (q.drop 1)).2.length < q.length
              omega
            rw [hp, hend]
            exact To.sub (by repeat (first | exact Sub.nil | refine Sub.cons rfl ?_))
  · skip
    have hF : (packOfP s).colours = acc := by rw [hI]; exact pk_stop (by simpa using hc0)
    refine AWp.to (To.accC 2 1 (xs := acc.flatMap intC) (n := acc.length) (a := [.int .i64 ((figP s).1 : Nat)]) (b := []) [(2, .ptr 0 0), (3, .ptr 1 0)] (by decide) rfl rfl (fun h => by rw [List.length_eq_zero_iff.1 h]; rfl) rfl rfl (by repeat (first | exact Sub.nil | refine Sub.cons rfl ?_)) (by repeat (first | exact Sub.nil | refine Sub.cons rfl ?_))) ?_
    refine AWp.exit ?_
    refine AWp.seq ?_
    refine AWp.region ?_
    refine AList.c 114 rfl rfl rfl (OpJ.load (v := .p (.agg (Pck.mk ((figP s).1 : Nat) acc).cells)) rfl rfl ty36 rfl) ?_
    refine AList.c0 rfl rfl (OpJ.store rfl rfl rfl rfl rfl ty36 rfl rfl) ?_
    refine AList.nil ?_
    refine AWp.ret ?_
    rw [show (packOfP s).cells = (Pck.mk ((figP s).1 : Nat) acc).cells by unfold Pck.cells; rw [← hF]; rfl]
    exact Fin.one rfl (⟨_, _, _, rfl, ty36, rfl⟩)
end Go.Proofs.YtplofbjppcbchaaDoor
end

section
set_option linter.unusedVariables false
set_option maxRecDepth 100000
set_option maxHeartbeats 4000000
set_option linter.unusedSimpArgs false
namespace Go.Proofs.YtplofbjppcbchaaDoor
open Go.AF
theorem rwriteP_ref (s : Bs) (hs : s.length ≤ 65536) : Pure Tryd.prog 37 [.is (((lnsG [] s).map packOfP).flatMap Pck.cells) (lnsG [] s).length] (.tuple [.str (sB (wrP (refP s)).1), .int .i64 (wrP (refP s)).2]) := by
  have h := rwriteP_ok (refP s) (by unfold refP; rw [List.length_map]; exact Nat.le_trans (lns_len s []) (Nat.le_trans hs (by decide))) (fun p hp => by
    unfold refP at hp
    obtain ⟨x, _, rfl⟩ := List.mem_map.1 hp
    exact packOf_n x)
  unfold pcksV at h
  rwa [show (refP s).length = (lnsG [] s).length from List.length_map ..] at h
theorem rreadP_ok (s : Bs) : Pure Tryd.prog 10 [.str (sB s)] (.tuple [(rdP s).1, .int .i64 (rdP s).2]) := by
  refine Pure.start (N := 45) Tryd.func10 rfl rfl (Nat.le_of_ble_eq_true rfl) ?_
  refine AWp.seq ?_
  refine AWp.region ?_
  refine AList.c 2 rfl rfl rfl (OpJ.assign rfl rfl) ?_
  refine AList.c 3 rfl rfl rfl (OpJ.assign rfl rfl) ?_
  refine AList.nil ?_
  refine AWp.seq ?_
  refine AWp.seq ?_
  refine AWp.region ?_
  refine AList.c 10 rfl rfl rfl (OpJ.move rfl rfl) ?_
  refine AList.c 11 rfl rfl rfl (OpJ.lenStr rfl rfl un9) ?_
  refine AList.c 12 rfl rfl rfl (OpJ.gtr rfl rfl rfl) ?_
  refine AList.nil ?_
  refine AWp.cond _ rfl (fun hc0 => ?_) (fun hc0 => ?_)
  · skip
    have hbig : 65536 < s.length := by have h := of_decide_eq_true hc0; rw [sB_size] at h; omega
    refine AWp.seq ?_
    refine AWp.region ?_
    refine AList.c 2 rfl rfl rfl (OpJ.assign rfl rfl) ?_
    refine AList.c 3 rfl rfl rfl (OpJ.assign rfl rfl) ?_
    refine AList.nil ?_
    refine AWp.ret ?_
    refine Fin.manyE (xs := [.nilSlice, .int .i64 3]) rfl ⟨_, _, rfl, rfl, ⟨_, _, rfl, rfl, rfl⟩⟩ rfl ?_
    rw [rdP_big hbig]
  · skip
    have hs : s.length ≤ 65536 := by have h := of_decide_eq_false hc0; rw [sB_size] at h; omega
    have hll := lns_len s []
    refine AWp.skip ?_
    refine AWp.seq ?_
    refine AWp.region ?_
    refine AList.c 14 rfl rfl rfl (OpJ.move rfl rfl) ?_
    refine AList.c 15 rfl rfl rfl (OpJ.callP (lines_ok s hs) rfl rfl rfl rfl rf35) ?_
    refine AList.c 13 rfl rfl rfl (OpJ.move rfl rfl) ?_
    refine AList.c 16 rfl rfl rfl (OpJ.extract rfl rfl rfl) ?_
    refine AList.c 17 rfl rfl rfl (OpJ.extract rfl rfl rfl) ?_
    refine AList.c 4 rfl rfl rfl (OpJ.assign rfl rfl) ?_
    refine AList.c 5 rfl rfl rfl (OpJ.assign rfl rfl) ?_
    refine AList.nil ?_
    refine AWp.seq ?_
    refine AWp.region ?_
    refine AList.c 6 rfl rfl rfl (OpJ.assign rfl rfl) ?_
    refine AList.nil ?_
    refine AWp.seq ?_
    refine AWp.seq ?_
    refine AWp.region ?_
    refine AList.c 7 rfl rfl rfl (OpJ.assign rfl rfl) ?_
    refine AList.nil ?_
    refine AWp.block ?_
    refine AWp.loopHL [0, 2, 3, 4, 8, 9, 32, 33, 34, 35, 36, 37, 38, 39, 40, 41, 42, 43, 44] (fun g => [(7, .p (.int .i64 ((g : Nat) : Int))), (6, accV 0 g)]) (fun g => [accB (((((lnsG [] s).take g).map packOfP).flatMap Pck.cells).map .p) 36 g]) (fun g => g ≤ (lnsG [] s).length) (fun g => (lnsG [] s).length - g) 0 (Nat.zero_le _) (To.pad.trans (To.sub (Sub.chk (Sub.cons rfl (Sub.cons rfl Sub.nil))))) (fun i hg => ?_)
    refine AWp.seq ?_
    refine AWp.seq ?_
    refine AWp.region ?_
    refine AList.c 18 rfl rfl rfl (OpJ.move rfl rfl) ?_
    refine AList.c 19 rfl rfl rfl (OpJ.move rfl rfl) ?_
    refine AList.c 20 rfl rfl rfl (OpJ.lenSlice rfl rfl sl90 rfl) ?_
    refine AList.c 21 rfl rfl rfl (OpJ.lss rfl rfl rfl) ?_
    refine AList.nil ?_
    refine AWp.cond _ rfl (fun hc1 => ?_) (fun hc1 => ?_)
    · skip
      have hk0 : i < (lnsG [] s).length := by have h := of_decide_eq_true hc1; omega
      refine AWp.skip ?_
      refine AWp.seq ?_
      refine AWp.block ?_
      refine AWp.region ?_
      refine AList.c 24 rfl rfl rfl (OpJ.move rfl rfl) ?_
      refine AList.c 25 rfl rfl rfl (OpJ.move rfl rfl) ?_
      refine AList.c 26 rfl rfl rfl (OpJ.move rfl rfl) ?_
      refine AList.c 27 rfl rfl rfl (OpJ.indexG (g := gt [] (lnsG [] s)) (gt_get _) rfl rfl rfl sl90 el90 rfl (fun _ => rfl) (by decide) hk0) ?_
      refine AList.c 28 rfl rfl rfl (OpJ.load (v := .p (.str (sB (gt [] (lnsG [] s) i)))) rfl rfl ty9 rfl) ?_
      refine AList.c 29 rfl rfl rfl (OpJ.callP (packOf_ok (gt [] (lnsG [] s) i)) rfl rfl rfl rfl rf36) ?_
      refine AList.c 30 rfl rfl rfl (OpJ.buildImm rfl slz24 (by decide) rfl rfl rfl) ?_
      refine AList.c 31 rfl rfl rfl (OpJ.appendAcc rfl rfl rfl slz24 sl24 rfl ?_ rfl (by decide) rfl by36 (by decide) ?_) ?_
      · rw [List.length_map, AF.flat_len (c := 2) (fun _ => rfl), List.length_map, List.length_take, Nat.min_eq_left hg]; rfl
      · show (2 * (i + 1) + 192) * 32 ≤ 281474976710656; omega
      refine AList.c 6 rfl rfl rfl (OpJ.assign rfl rfl) ?_
      refine AList.nil ?_
      refine AWp.region ?_
      refine AList.c 22 rfl rfl rfl (OpJ.move rfl rfl) ?_
      refine AList.c 23 rfl rfl rfl (OpJ.add (m := ((i + 1 : Nat) : Int)) rfl rfl rfl ((i64ok ?_).trans ?_)) ?_
      · omega
      · omega
      refine AList.c 7 rfl rfl rfl (OpJ.assign rfl rfl) ?_
      refine AList.nil ?_
      refine ⟨i + 1, ?_, ?_, ?_⟩
      · exact hk0
      · omega
      have eL : (((lnsG [] s).take (i + 1)).map packOfP).flatMap Pck.cells = (((lnsG [] s).take i).map packOfP).flatMap Pck.cells ++ (packOfP (gt [] (lnsG [] s) i)).cells := by rw [List.take_succ_eq_append_getElem hk0, gt_get [] i hk0, List.map_append, List.flatMap_append]; simp
      rw [eL]
      refine To.done [1] rfl (by repeat (first | exact Sub.nil | refine Sub.cons rfl ?_)) ?_
      show [Blk.row (renL _ (_ ++ _)) _] = [Blk.row _ _]
      rw [renL_app, renL_pure, List.map_append]
      rfl
    · skip
      have hi : i = (lnsG [] s).length := by have h := of_decide_eq_false hc1; omega
      subst hi
      rw [List.take_length]
      refine AWp.to (To.accD 6 0 (lnsG [] s).length (xs := ((lnsG [] s).map packOfP).flatMap Pck.cells) rfl rfl (fun h => by rw [List.length_eq_zero_iff.1 h]; rfl)) ?_
      refine AWp.exit ?_
      refine AWp.seq ?_
      refine AWp.region ?_
      refine AList.c 33 rfl rfl rfl (OpJ.move rfl rfl) ?_
      refine AList.c 34 rfl rfl rfl (OpJ.callP (rwriteP_ref s hs) rfl rfl rfl rfl rf37) ?_
      refine AList.c 32 rfl rfl rfl (OpJ.move rfl rfl) ?_
      refine AList.c 35 rfl rfl rfl (OpJ.extract rfl rfl rfl) ?_
      refine AList.c 36 rfl rfl rfl (OpJ.extract rfl rfl rfl) ?_
      refine AList.c 8 rfl rfl rfl (OpJ.assign rfl rfl) ?_
      refine AList.c 9 rfl rfl rfl (OpJ.assign rfl rfl) ?_
      refine AList.nil ?_
      refine AWp.seq ?_
      refine AWp.seq ?_
      refine AWp.region ?_
      refine AList.c 37 rfl rfl rfl (OpJ.move rfl rfl) ?_
      refine AList.c 38 rfl rfl rfl (OpJ.neq rfl rfl rfl) ?_
      refine AList.c 39 rfl rfl rfl (OpJ.move rfl rfl) ?_
      refine AList.g 40 39 rfl rfl rfl rfl rfl rfl rfl [(8, _)] (fun h => And.intro (.inl rfl) (trivial)) (fun h => (OpJ.move rfl rfl)) ?_
      refine AList.g 41 39 rfl rfl rfl rfl rfl rfl rfl [(0, _)] (fun h => And.intro (.inl rfl) (trivial)) (fun h => (OpJ.move rfl rfl)) ?_
      refine AList.g 42 39 rfl rfl rfl rfl rfl rfl rfl [(40, _), (41, _)] (fun h => And.intro (.inr ⟨_, rfl, h⟩) (And.intro (.inr ⟨_, rfl, h⟩) (trivial))) (fun h => (OpJ.strNe (wrP (refP s)).1 s rfl rfl rfl)) ?_
      refine AList.c 43 rfl rfl rfl (OpJ.or_ rfl rfl rfl ?_) ?_
      · first | (intro h; rw [h]; rfl) | (intro h; simp_all)
      refine AList.nil ?_
      refine AWp.cond _ rfl (fun hc2 => ?_) (fun hc2 => ?_)
      · skip
        have hno : ¬ ((wrP (refP s)).2 = 0 ∧ (wrP (refP s)).1 = s) := fun e => by simp [e.1, e.2] at hc2
        refine AWp.seq ?_
        refine AWp.region ?_
        refine AList.c 2 rfl rfl rfl (OpJ.assign rfl rfl) ?_
        refine AList.c 3 rfl rfl rfl (OpJ.assign rfl rfl) ?_
        refine AList.nil ?_
        refine AWp.ret ?_
        refine Fin.manyE (xs := [.nilSlice, .int .i64 8]) rfl ⟨_, _, rfl, rfl, ⟨_, _, rfl, rfl, rfl⟩⟩ rfl ?_
        rw [rdP_ref hs, if_neg hno]
      · skip
        have hyes : (wrP (refP s)).2 = 0 ∧ (wrP (refP s)).1 = s := by simpa using hc2
        refine AWp.skip ?_
        refine AWp.seq ?_
        refine AWp.region ?_
        refine AList.c 44 rfl rfl rfl (OpJ.move rfl rfl) ?_
        refine AList.c 2 rfl rfl rfl (OpJ.assign rfl rfl) ?_
        refine AList.c 3 rfl rfl rfl (OpJ.assign rfl rfl) ?_
        refine AList.nil ?_
        refine AWp.ret ?_
        refine Fin.manyE (xs := [.is (((lnsG [] s).map packOfP).flatMap Pck.cells) (lnsG [] s).length, .int .i64 0]) rfl ⟨_, _, rfl, rfl, ⟨_, _, rfl, rfl, rfl⟩⟩ rfl ?_
        rw [rdP_ref hs, if_pos hyes]
        unfold pcksV
        rw [show (refP s).length = (lnsG [] s).length from List.length_map ..]
        rfl
end Go.Proofs.YtplofbjppcbchaaDoor
end
