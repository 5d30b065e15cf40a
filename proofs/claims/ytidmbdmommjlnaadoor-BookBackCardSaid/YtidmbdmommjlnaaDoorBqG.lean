/-
  The law on a byte that has changed.
-/
import Derived.Test.YtidmbdmommjlnaaDoorBqE
import Derived.Test.YtidmbdmommjlnaaDoorBqP
section
set_option linter.unusedVariables false
set_option maxRecDepth 100000
set_option maxHeartbeats 4000000
set_option linter.unusedSimpArgs false
namespace Go.Proofs.YtidmbdmommjlnaaDoor
open Go.AF
theorem readCards_eq {s : Bs} {v : PV} {e : Int} (h : rdC s = (v, e)) : Pure Tryd.prog 15 [.str (sB s)] (.tuple [v, .int .i64 e]) := by
  have h2 := readCards_ok s
  rwa [h] at h2
theorem writeCards_eq {l : List Crd} (hl : l.length ≤ bigN) {s : Bs} {e : Int} (h : wrC l = (s, e)) : Pure Tryd.prog 11 [crdsV l] (.tuple [.str (sB s), .int .i64 e]) := by
  have h2 := writeCards_ok l hl
  rwa [h] at h2
theorem bookByte_ok (c : List Crd) (hc : c.length ≤ bigN) (a : Nat) (ha : a ≤ 65535) (y : UInt8) : Pure Tryd.prog 5 [crdsV c, .int .u16 (a : Int), .int .u8 (y.toNat : Int)] (.bool true) := by
  refine Pure.start (N := 107) Tryd.func5 rfl rfl (Nat.le_of_ble_eq_true rfl) ?_
  refine AWp.seq ?_
  refine AWp.region ?_
  refine AList.c 6 rfl rfl rfl (OpJ.assign rfl rfl) ?_
  refine AList.nil ?_
  refine AWp.seq ?_
  refine AWp.seq ?_
  refine AWp.region ?_
  refine AList.c 14 rfl rfl rfl (OpJ.move rfl rfl) ?_
  refine AList.c 15 rfl rfl rfl (OpJ.callP (manyC_ok c) rfl rfl rfl rfl rf8) ?_
  refine AList.nil ?_
  refine AWp.cond _ rfl (fun hc0 => ?_) (fun hc0 => ?_)
  · skip
    refine AWp.seq ?_
    refine AWp.region ?_
    refine AList.c 16 rfl rfl rfl (OpJ.callP (alive_ok) rfl rfl rfl rfl rf9) ?_
    refine AList.c 6 rfl rfl rfl (OpJ.assign rfl rfl) ?_
    refine AList.nil ?_
    refine AWp.ret ?_
    exact Fin.oneE rfl rfl rfl
  · skip
    refine AWp.skip ?_
    refine AWp.seq ?_
    obtain ⟨s, w, hw⟩ : ∃ s w, wrC c = (s, w) := ⟨_, _, rfl⟩
    have hwe := wrC_e (l := c)
    have hwo := wrC_ok (l := c)
    rw [hw] at hwe hwo
    dsimp only at hwe hwo
    refine AWp.region ?_
    refine AList.c 18 rfl rfl rfl (OpJ.move rfl rfl) ?_
    refine AList.c 19 rfl rfl rfl (OpJ.callP (writeCards_eq hc hw) rfl rfl rfl rfl rf11) ?_
    refine AList.c 17 rfl rfl rfl (OpJ.move rfl rfl) ?_
    refine AList.c 20 rfl rfl rfl (OpJ.extract rfl rfl rfl) ?_
    refine AList.c 21 rfl rfl rfl (OpJ.extract rfl rfl rfl) ?_
    refine AList.c 7 rfl rfl rfl (OpJ.assign rfl rfl) ?_
    refine AList.c 8 rfl rfl rfl (OpJ.assign rfl rfl) ?_
    refine AList.nil ?_
    refine AWp.seq ?_
    refine AWp.seq ?_
    refine AWp.region ?_
    refine AList.c 22 rfl rfl rfl (OpJ.move rfl rfl) ?_
    refine AList.c 23 rfl rfl rfl (OpJ.neq rfl rfl rfl) ?_
    refine AList.c 24 rfl rfl rfl (OpJ.move rfl rfl) ?_
    refine AList.g 25 24 rfl rfl rfl rfl rfl rfl rfl [(7, _)] (fun h => And.intro (.inl rfl) (trivial)) (fun h => (OpJ.move rfl rfl)) ?_
    refine AList.g 26 24 rfl rfl rfl rfl rfl rfl rfl [(25, _)] (fun h => And.intro (.inr ⟨_, rfl, h⟩) (trivial)) (fun h => (OpJ.strEq s [] rfl rfl rfl)) ?_
    refine AList.c 27 rfl rfl rfl (OpJ.or_ rfl rfl rfl ?_) ?_
    · first | (intro h; rw [h]; rfl) | (intro h; simp_all)
    refine AList.nil ?_
    refine AWp.cond _ rfl (fun hc1 => ?_) (fun hc1 => ?_)
    · skip
      refine AWp.seq ?_
      refine AWp.region ?_
      refine AList.c 28 rfl rfl rfl (OpJ.move rfl rfl) ?_
      refine AList.c 29 rfl rfl rfl (OpJ.neq rfl rfl rfl) ?_
      refine AList.c 30 rfl rfl rfl (OpJ.move rfl rfl) ?_
      refine AList.g 31 30 rfl rfl rfl rfl rfl rfl rfl [(7, _)] (fun h => And.intro (.inl rfl) (trivial)) (fun h => (OpJ.move rfl rfl)) ?_
      refine AList.g 32 30 rfl rfl rfl rfl rfl rfl rfl [(31, _)] (fun h => And.intro (.inr ⟨_, rfl, h⟩) (trivial)) (fun h => (OpJ.strEq s [] rfl rfl rfl)) ?_
      refine AList.c 33 rfl rfl rfl (OpJ.and_ rfl rfl rfl ?_) ?_
      · first | (intro h; rw [h]; rfl) | (intro h; simp_all)
      refine AList.c 34 rfl rfl rfl (OpJ.move rfl rfl) ?_
      refine AList.g 35 34 rfl rfl rfl rfl rfl rfl rfl [] (fun h => trivial) (fun h => (OpJ.callP (alive_ok) rfl rfl rfl rfl rf9)) ?_
      refine AList.c 36 rfl rfl rfl (OpJ.and_ rfl rfl rfl ?_) ?_
      · first | (intro h; rw [h]; rfl) | (intro h; simp_all)
      refine AList.c 6 rfl rfl rfl (OpJ.assign rfl rfl) ?_
      refine AList.nil ?_
      refine AWp.ret ?_
      refine Fin.oneE rfl rfl ?_
      by_cases hz : w = 0
      · obtain ⟨_, _, rfl, _, _⟩ := hwo hz
        simp [hz] at hc1
      · simp [hz, hwe hz]
    · skip
      have hz : w = 0 ∧ s ≠ [] := by simpa using hc1
      obtain ⟨rfl, hne⟩ := hz
      obtain ⟨hl, hv, rfl, hT, hrd⟩ := hwo rfl
      have hs1 : (crdsTT c ++ [sumB (crdsTT c)]).length = (crdsTT c).length + 1 := by simp
      refine AWp.skip ?_
      refine AWp.seq ?_
      refine AWp.seq ?_
      refine AWp.region ?_
      refine AList.c 37 rfl rfl rfl (OpJ.move rfl rfl) ?_
      refine AList.c 38 rfl rfl rfl (OpJ.eql rfl rfl rfl) ?_
      refine AList.nil ?_
      refine AWp.cond _ rfl (fun hc2 => ?_) (fun hc2 => ?_)
      · skip
        refine AWp.seq ?_
        refine AWp.region ?_
        refine AList.c 39 rfl rfl rfl (OpJ.callP (alive_ok) rfl rfl rfl rfl rf9) ?_
        refine AList.c 6 rfl rfl rfl (OpJ.assign rfl rfl) ?_
        refine AList.nil ?_
        refine AWp.ret ?_
        exact Fin.oneE rfl rfl rfl
      · skip
        have hy : y ≠ 0 := fun e => by rw [e] at hc2; simp at hc2
        obtain ⟨k, hk⟩ : ∃ k, k = a % (crdsTT c ++ [sumB (crdsTT c)]).length := ⟨_, rfl⟩
        have hkl : k < (crdsTT c ++ [sumB (crdsTT c)]).length := by rw [hk]; exact Nat.mod_lt _ (by omega)
        obtain ⟨e, he, hee⟩ := byte_any hT hkl hy
        have he2 : rdC ((((crdsTT c ++ [sumB (crdsTT c)]).drop 0).take (k - 0) ++ [gt 0 (crdsTT c ++ [sumB (crdsTT c)]) k + y]) ++ ((crdsTT c ++ [sumB (crdsTT c)]).drop (k + 1)).take ((crdsTT c ++ [sumB (crdsTT c)]).length - (k + 1))) = (.nilSlice, e) := by rw [List.drop_zero, Nat.sub_zero, List.take_of_length_le (l := (crdsTT c ++ [sumB (crdsTT c)]).drop (k + 1)) (by rw [List.length_drop]; exact Nat.le_refl _)]; exact he
        have hL : rdC (((crdsTT c ++ [sumB (crdsTT c)]).drop 0).take ((crdsTT c ++ [sumB (crdsTT c)]).length - 1 - 0) ++ [sumB (crdsTT c) + y]) = (.nilSlice, 11) := by rw [List.drop_zero, Nat.sub_zero, hs1, Nat.add_sub_cancel, List.take_left]; exact byte_last hl hv hT hy
        refine AWp.skip ?_
        refine AWp.seq ?_
        refine AWp.region ?_
        refine AList.c 40 rfl rfl rfl (OpJ.move rfl rfl) ?_
        refine AList.c 41 rfl rfl rfl (OpJ.convInt rfl rfl (by rw [un55]; rfl) un3 (i64ok ?_)) ?_
        · omega
        refine AList.c 42 rfl rfl rfl (OpJ.move rfl rfl) ?_
        refine AList.c 43 rfl rfl rfl (OpJ.lenStr rfl rfl un9) ?_
        refine AList.c 44 rfl rfl rfl (OpJ.rem (m := (k : Int)) rfl rfl rfl ?_ ?_) ?_
        · rw [sB_size]; omega
        · rw [hk]; exact tmodN _ _
        refine AList.c 9 rfl rfl rfl (OpJ.assign rfl rfl) ?_
        refine AList.nil ?_
        refine AWp.seq ?_
        refine AWp.regionDraw 22 mixed (by kernel_rfl) (by decide) ?_
        refine AQuiet.cons 46 rfl rfl rfl (OpJ.move rfl rfl) ?_
        refine AQuiet.cons 47 rfl rfl rfl (OpJ.move rfl rfl) ?_
        refine AQuiet.cons 48 rfl rfl rfl (OpJ.strCut (crdsTT c ++ [sumB (crdsTT c)]) 0 k rfl rfl st9 rfl ⟨_, rfl⟩ (by omega) (by omega)) ?_
        refine AQuiet.cons 49 rfl rfl rfl (OpJ.move rfl rfl) ?_
        refine AQuiet.cons 50 rfl rfl rfl (OpJ.move rfl rfl) ?_
        refine AQuiet.cons 51 rfl rfl rfl (OpJ.strIx (crdsTT c ++ [sumB (crdsTT c)]) k (gt 0 (crdsTT c ++ [sumB (crdsTT c)]) k) rfl rfl rfl st9 (by rw [List.getElem?_eq_getElem hkl, gt_get 0 k hkl])) ?_
        refine AQuiet.cons 52 rfl rfl rfl (OpJ.move rfl rfl) ?_
        refine AQuiet.cons 53 rfl rfl rfl (OpJ.add (m := ((gt 0 (crdsTT c ++ [sumB (crdsTT c)]) k + y).toNat : Int)) rfl rfl rfl ?_) ?_
        · exact u8_add _ _
        refine AQuiet.cons 54 rfl rfl rfl (OpJ.buildImm rfl slz52 (by decide) rfl rfl rfl) ?_
        refine AQuiet.cons 55 rfl rfl rfl (OpJ.bytesStr [gt 0 (crdsTT c ++ [sumB (crdsTT c)]) k + y] rfl rfl bt52 st9) ?_
        refine AQuiet.cons 56 rfl rfl rfl (OpJ.strAdd _ _ rfl rfl rfl ?_) ?_
        · simp only [List.length_append, List.length_take, List.length_drop, List.length_singleton]; omega
        refine AQuiet.cons 57 rfl rfl rfl (OpJ.move rfl rfl) ?_
        refine AQuiet.cons 58 rfl rfl rfl (OpJ.move rfl rfl) ?_
        refine AQuiet.cons 59 rfl rfl rfl (OpJ.add (m := ((k + 1 : Nat) : Int)) rfl rfl rfl ((i64ok ?_).trans ?_)) ?_
        · omega
        · omega
        refine AQuiet.cons 60 rfl rfl rfl (OpJ.strCut (crdsTT c ++ [sumB (crdsTT c)]) (k + 1) (crdsTT c ++ [sumB (crdsTT c)]).length rfl rfl st9 ⟨_, rfl⟩ rfl (by omega) (by omega)) ?_
        refine AQuiet.cons 61 rfl rfl rfl (OpJ.strAdd _ _ rfl rfl rfl ?_) ?_
        · simp only [List.length_append, List.length_take, List.length_drop, List.length_singleton]; omega
        refine AQuiet.cons 62 rfl rfl rfl (OpJ.callP (readCards_eq he2) rfl rfl rfl rfl rf15) ?_
        refine AQuiet.cons 45 rfl rfl rfl (OpJ.move rfl rfl) ?_
        refine AQuiet.cons 63 rfl rfl rfl (OpJ.extract rfl rfl rfl) ?_
        refine AQuiet.cons 64 rfl rfl rfl (OpJ.extract rfl rfl rfl) ?_
        refine AQuiet.cons 10 rfl rfl rfl (OpJ.assign rfl rfl) ?_
        refine AQuiet.cons 11 rfl rfl rfl (OpJ.assign rfl rfl) ?_
        refine AQuiet.nil ?_
        refine AList.nil ?_
        refine AWp.seq ?_
        refine AWp.regionDraw 21 mixed (by kernel_rfl) (by decide) ?_
        refine AQuiet.cons 66 rfl rfl rfl (OpJ.move rfl rfl) ?_
        refine AQuiet.cons 67 rfl rfl rfl (OpJ.move rfl rfl) ?_
        refine AQuiet.cons 68 rfl rfl rfl (OpJ.lenStr rfl rfl un9) ?_
        refine AQuiet.cons 69 rfl rfl rfl (OpJ.sub_ (m := (((crdsTT c ++ [sumB (crdsTT c)]).length - 1 : Nat) : Int)) rfl rfl rfl ((i64ok ?_).trans ?_)) ?_
        · rw [sB_size]; omega
        · rw [sB_size]; omega
        refine AQuiet.cons 70 rfl rfl rfl (OpJ.strCut (crdsTT c ++ [sumB (crdsTT c)]) 0 ((crdsTT c ++ [sumB (crdsTT c)]).length - 1) rfl rfl st9 rfl ⟨_, rfl⟩ (by omega) (by omega)) ?_
        refine AQuiet.cons 71 rfl rfl rfl (OpJ.move rfl rfl) ?_
        refine AQuiet.cons 72 rfl rfl rfl (OpJ.move rfl rfl) ?_
        refine AQuiet.cons 73 rfl rfl rfl (OpJ.lenStr rfl rfl un9) ?_
        refine AQuiet.cons 74 rfl rfl rfl (OpJ.sub_ (m := (((crdsTT c ++ [sumB (crdsTT c)]).length - 1 : Nat) : Int)) rfl rfl rfl ((i64ok ?_).trans ?_)) ?_
        · rw [sB_size]; omega
        · rw [sB_size]; omega
        refine AQuiet.cons 75 rfl rfl rfl (OpJ.strIx (crdsTT c ++ [sumB (crdsTT c)]) ((crdsTT c ++ [sumB (crdsTT c)]).length - 1) (sumB (crdsTT c)) rfl rfl rfl st9 (by rw [hs1, Nat.add_sub_cancel, List.getElem?_append_right (Nat.le_refl _), Nat.sub_self]; rfl)) ?_
        refine AQuiet.cons 76 rfl rfl rfl (OpJ.move rfl rfl) ?_
        refine AQuiet.cons 77 rfl rfl rfl (OpJ.add (m := ((sumB (crdsTT c) + y).toNat : Int)) rfl rfl rfl ?_) ?_
        · exact u8_add _ _
        refine AQuiet.cons 78 rfl rfl rfl (OpJ.buildImm rfl slz52 (by decide) rfl rfl rfl) ?_
        refine AQuiet.cons 79 rfl rfl rfl (OpJ.bytesStr [sumB (crdsTT c) + y] rfl rfl bt52 st9) ?_
        refine AQuiet.cons 80 rfl rfl rfl (OpJ.strAdd _ _ rfl rfl rfl ?_) ?_
        · simp only [List.length_append, List.length_take, List.length_drop, List.length_singleton]; omega
        refine AQuiet.cons 81 rfl rfl rfl (OpJ.callP (readCards_eq hL) rfl rfl rfl rfl rf15) ?_
        refine AQuiet.cons 65 rfl rfl rfl (OpJ.move rfl rfl) ?_
        refine AQuiet.cons 82 rfl rfl rfl (OpJ.extract rfl rfl rfl) ?_
        refine AQuiet.cons 83 rfl rfl rfl (OpJ.extract rfl rfl rfl) ?_
        refine AQuiet.cons 12 rfl rfl rfl (OpJ.assign rfl rfl) ?_
        refine AQuiet.cons 13 rfl rfl rfl (OpJ.assign rfl rfl) ?_
        refine AQuiet.nil ?_
        refine AList.nil ?_
        refine AWp.seq ?_
        refine AWp.region ?_
        refine AList.c 84 rfl rfl rfl (OpJ.move rfl rfl) ?_
        refine AList.c 85 rfl rfl rfl (OpJ.lenSlice rfl rfl sl23 rfl) ?_
        refine AList.c 86 rfl rfl rfl (OpJ.eql rfl rfl rfl) ?_
        refine AList.c 87 rfl rfl rfl (OpJ.move rfl rfl) ?_
        refine AList.g 88 87 rfl rfl rfl rfl rfl rfl rfl [(11, _)] (fun h => And.intro (.inl rfl) (trivial)) (fun h => (OpJ.move rfl rfl)) ?_
        refine AList.g 89 87 rfl rfl rfl rfl rfl rfl rfl [(88, _)] (fun h => And.intro (.inr ⟨_, rfl, h⟩) (trivial)) (fun h => (OpJ.eql rfl rfl rfl)) ?_
        refine AList.g 90 87 rfl rfl rfl rfl rfl rfl rfl [(89, _)] (fun h => And.intro (.inr ⟨_, rfl, h⟩) (trivial)) (fun h => (OpJ.move rfl rfl)) ?_
        refine AList.g 91 90 rfl rfl rfl rfl rfl rfl rfl [(11, _)] (fun h => And.intro (.inl rfl) (trivial)) (fun h => (OpJ.move rfl rfl)) ?_
        refine AList.g 92 90 rfl rfl rfl rfl rfl rfl rfl [(91, _)] (fun h => And.intro (.inr ⟨_, rfl, h⟩) (trivial)) (fun h => (OpJ.eql rfl rfl rfl)) ?_
        refine AList.g 93 87 rfl rfl rfl rfl rfl rfl rfl [(90, _), (92, _)] (fun h => And.intro (.inr ⟨_, rfl, h⟩) (And.intro (.inl rfl) (trivial))) (fun h => (OpJ.or_ rfl rfl rfl ?_)) ?_
        · first | (intro h; rw [h]; rfl) | (intro h; simp_all)
        refine AList.c 94 rfl rfl rfl (OpJ.and_ rfl rfl rfl ?_) ?_
        · first | (intro h; rw [h]; rfl) | (intro h; simp_all)
        refine AList.c 95 rfl rfl rfl (OpJ.move rfl rfl) ?_
        refine AList.g 96 95 rfl rfl rfl rfl rfl rfl rfl [(12, _)] (fun h => And.intro (.inl rfl) (trivial)) (fun h => (OpJ.move rfl rfl)) ?_
        refine AList.g 97 95 rfl rfl rfl rfl rfl rfl rfl [(96, _)] (fun h => And.intro (.inr ⟨_, rfl, h⟩) (trivial)) (fun h => (OpJ.lenSlice rfl rfl sl23 rfl)) ?_
        refine AList.g 98 95 rfl rfl rfl rfl rfl rfl rfl [(97, _)] (fun h => And.intro (.inr ⟨_, rfl, h⟩) (trivial)) (fun h => (OpJ.eql rfl rfl rfl)) ?_
        refine AList.c 99 rfl rfl rfl (OpJ.and_ rfl rfl rfl ?_) ?_
        · first | (intro h; rw [h]; rfl) | (intro h; simp_all)
        refine AList.c 100 rfl rfl rfl (OpJ.move rfl rfl) ?_
        refine AList.g 101 100 rfl rfl rfl rfl rfl rfl rfl [(13, _)] (fun h => And.intro (.inl rfl) (trivial)) (fun h => (OpJ.move rfl rfl)) ?_
        refine AList.g 102 100 rfl rfl rfl rfl rfl rfl rfl [(101, _)] (fun h => And.intro (.inr ⟨_, rfl, h⟩) (trivial)) (fun h => (OpJ.eql rfl rfl rfl)) ?_
        refine AList.c 103 rfl rfl rfl (OpJ.and_ rfl rfl rfl ?_) ?_
        · first | (intro h; rw [h]; rfl) | (intro h; simp_all)
        refine AList.c 104 rfl rfl rfl (OpJ.move rfl rfl) ?_
        refine AList.g 105 104 rfl rfl rfl rfl rfl rfl rfl [] (fun h => trivial) (fun h => (OpJ.callP (alive_ok) rfl rfl rfl rfl rf9)) ?_
        refine AList.c 106 rfl rfl rfl (OpJ.and_ rfl rfl rfl ?_) ?_
        · first | (intro h; rw [h]; rfl) | (intro h; simp_all)
        refine AList.c 6 rfl rfl rfl (OpJ.assign rfl rfl) ?_
        refine AList.nil ?_
        refine AWp.ret ?_
        refine Fin.oneE rfl rfl ?_
        rcases hee with rfl | rfl <;> rfl
theorem bookByte_law {x0 x1 x2 : List PV} (h0 : TyL [.sl shC] x0) (h1 : TyL [.leaf (.int .u16)] x1) (h2 : TyL [.leaf (.int .u8)] x2) : Pure Tryd.prog 5 [argP false x0, argP false x1, argP false x2] (.bool true) := by
  obtain ⟨c, rfl, hc⟩ := crds_of h0
  obtain ⟨a, rfl, ha⟩ := u16_of h1
  obtain ⟨y, rfl⟩ := u8_of h2
  exact bookByte_ok c hc a ha y
end Go.Proofs.YtidmbdmommjlnaaDoor
end
