/-
  Mixtures.
-/
import Derived.Test.YtmcejcidbekpkaaSk14
set_option linter.unusedVariables false
set_option maxRecDepth 100000
set_option maxHeartbeats 4000000
set_option linter.unusedSimpArgs false
namespace Go.Proofs.Ytmcejcidbekpkaa
open Go.AF
theorem of_ok (s1 s2 : Sk) (t : Int) (w : Sp) (n : Int) (hn : 0 ≤ n) (hnt : n ≤ t) (ht : t ≤ 100000) : Pure Try.prog 73 [.agg (s1.cells ++ s2.cells ++ [.int .i64 t, .int .i64 w.lo, .int .i64 w.hi]), .int .i64 n] (mapP (PV.int .i64) gpS (ofM s1 s2 t n)) := by
  refine Pure.start (N := 25) Try.func73 rfl rfl (Nat.le_of_ble_eq_true rfl) ?_
  refine AWp.seq ?_
  refine AWp.region ?_
  refine AList.c 2 rfl rfl rfl (OpJ.boxImm rfl rfl rfl) ?_
  refine AList.c 4 rfl rfl rfl (OpJ.assign rfl rfl) ?_
  refine AList.nil ?_
  refine AWp.seq ?_
  refine AWp.region ?_
  refine AList.c 5 rfl rfl rfl (OpJ.makeMap (K := Int) (α := Sk × Sp) (enc := PV.int .i64) (g := fun a => .p (gpS a)) rfl) ?_
  refine AList.c 6 rfl rfl rfl (OpJ.fieldAddr rfl rfl fd83_0 rfl) ?_
  refine AList.c 7 rfl rfl rfl (OpJ.load rfl rfl ty57 rfl) ?_
  refine AList.c 8 rfl rfl rfl (OpJ.move rfl rfl) ?_
  refine AList.c 9 rfl rfl rfl (OpJ.move rfl rfl) ?_
  refine AList.c 10 rfl rfl rfl (OpJ.build rfl bd25 rfl rfl) ?_
  refine AList.c 11 rfl rfl rfl (OpJ.build rfl bd96 rfl rfl) ?_
  refine AList.c0 rfl rfl (OpJ.mapUpdate (KeyOk.int .i64 .i64) (g := fun a => .p (gpS a)) (c := (s1, ⟨n, n⟩)) (.inr rfl) rfl rfl rfl rfl mp65) ?_
  refine AList.c 12 rfl rfl rfl (OpJ.fieldAddr rfl rfl fd83_1 rfl) ?_
  refine AList.c 13 rfl rfl rfl (OpJ.load rfl rfl ty57 rfl) ?_
  refine AList.c 14 rfl rfl rfl (OpJ.fieldAddr rfl rfl fd83_2 rfl) ?_
  refine AList.c 15 rfl rfl rfl (OpJ.load rfl rfl ty3 rfl) ?_
  refine AList.c 16 rfl rfl rfl (OpJ.move rfl rfl) ?_
  refine AList.c 17 rfl rfl rfl (OpJ.sub_ rfl rfl rfl (i64ok ?_)) ?_
  · omega
  refine AList.c 18 rfl rfl rfl (OpJ.fieldAddr rfl rfl fd83_2 rfl) ?_
  refine AList.c 19 rfl rfl rfl (OpJ.load rfl rfl ty3 rfl) ?_
  refine AList.c 20 rfl rfl rfl (OpJ.move rfl rfl) ?_
  refine AList.c 21 rfl rfl rfl (OpJ.sub_ rfl rfl rfl (i64ok ?_)) ?_
  · omega
  refine AList.c 22 rfl rfl rfl (OpJ.build rfl bd25 rfl rfl) ?_
  refine AList.c 23 rfl rfl rfl (OpJ.build rfl bd96 rfl rfl) ?_
  refine AList.c0 rfl rfl (OpJ.mapUpdate (KeyOk.int .i64 .i64) (g := fun a => .p (gpS a)) (c := (s2, ⟨t - n, t - n⟩)) (.inr rfl) rfl rfl rfl rfl mp65) ?_
  refine AList.c 24 rfl rfl rfl (OpJ.move rfl rfl) ?_
  refine AList.c 4 rfl rfl rfl (OpJ.assign rfl rfl) ?_
  refine AList.nil ?_
  refine AWp.to (To.freezeMap 0 (gp := gpS) rfl) ?_
  refine AWp.ret ?_
  refine Fin.oneE rfl rfl ?_
  rfl
theorem beyondM_ok (s1 s2 : Sk) (t : Int) (w : Sp) (n : Int) (x : Int) (h1 : okSk s1) (h2 : okSk s2) (hn : 0 ≤ n) (hnt : n ≤ t) (ht : t ≤ 100000) (hx : 0 ≤ x ∧ x ≤ 1000) : Pure Try.prog 44 [mapP (PV.int .i64) gpS (ofM s1 s2 t n), .int .i64 x] (.agg [.int .i64 (n * fLo (overF x) s1 + (t - n) * fLo (overF x) s2), .int .i64 (n * fHi (overF x) s1 + (t - n) * fHi (overF x) s2)]) := by
  have h := beyond_ok (ofM s1 s2 t n) x hx (ofM_ok h1 h2 hn hnt ht)
  rw [ofM_lo s1 s2 t n hn hnt, ofM_hi s1 s2 t n hn hnt] at h
  exact h
theorem margin_ok (s1 s2 : Sk) (t : Int) (w : Sp) (n : Int) (h1 : okSk s1) (h2 : okSk s2) (ht : t ≤ 100000) (hw : 0 ≤ w.lo ∧ w.lo ≤ w.hi ∧ w.hi ≤ 1000) (hn : 0 ≤ n) (hnt : n ≤ t) : Pure Try.prog 56 [.agg (s1.cells ++ s2.cells ++ [.int .i64 t, .int .i64 w.lo, .int .i64 w.hi]), .int .i64 n] (.int .i64 (marg s1 s2 t w n)) := by
  have b1 := lin_B (fHi_B (x := w.hi) (by omega) h1) (fHi_B (x := w.hi) (by omega) h2) hn hnt ht
  refine Pure.start (N := 23) Try.func56 rfl rfl (Nat.le_of_ble_eq_true rfl) ?_
  refine AWp.seq ?_
  refine AWp.region ?_
  refine AList.c 2 rfl rfl rfl (OpJ.boxImm rfl rfl rfl) ?_
  refine AList.c 4 rfl rfl rfl (OpJ.assign rfl rfl) ?_
  refine AList.nil ?_
  refine AWp.seq ?_
  refine AWp.region ?_
  refine AList.c 6 rfl rfl rfl (OpJ.load rfl rfl ty83 rfl) ?_
  refine AList.c 7 rfl rfl rfl (OpJ.move rfl rfl) ?_
  refine AList.c 8 rfl rfl rfl (OpJ.callP (of_ok s1 s2 t w n hn hnt ht) rfl rfl rfl rfl rf73) ?_
  refine AList.c 5 rfl rfl rfl (OpJ.assign rfl rfl) ?_
  refine AList.nil ?_
  refine AWp.seq ?_
  refine AWp.regionDraw 15 mixed (by kernel_rfl) (by decide) ?_
  refine AQuiet.cons 9 rfl rfl rfl (OpJ.move rfl rfl) ?_
  refine AQuiet.cons 10 rfl rfl rfl (OpJ.fieldAddr rfl rfl fd83_3 rfl) ?_
  refine AQuiet.cons 11 rfl rfl rfl (OpJ.fieldAddr rfl rfl fd25_0 rfl) ?_
  refine AQuiet.cons 12 rfl rfl rfl (OpJ.load rfl rfl ty3 rfl) ?_
  refine AQuiet.cons 13 rfl rfl rfl (OpJ.callP (beyondM_ok s1 s2 t w n _ h1 h2 hn hnt ht (by omega)) rfl rfl rfl rfl rf44) ?_
  refine AQuiet.cons 14 rfl rfl rfl (OpJ.field rfl rfl fv25_0 rfl) ?_
  refine AQuiet.cons 15 rfl rfl rfl (OpJ.move rfl rfl) ?_
  refine AQuiet.cons 16 rfl rfl rfl (OpJ.fieldAddr rfl rfl fd83_3 rfl) ?_
  refine AQuiet.cons 17 rfl rfl rfl (OpJ.fieldAddr rfl rfl fd25_1 rfl) ?_
  refine AQuiet.cons 18 rfl rfl rfl (OpJ.load rfl rfl ty3 rfl) ?_
  refine AQuiet.cons 19 rfl rfl rfl (OpJ.callP (beyondM_ok s1 s2 t w n _ h1 h2 hn hnt ht (by omega)) rfl rfl rfl rfl rf44) ?_
  refine AQuiet.cons 20 rfl rfl rfl (OpJ.field rfl rfl fv25_1 rfl) ?_
  refine AQuiet.cons 21 rfl rfl rfl (OpJ.neg rfl rfl (i64ok ?_)) ?_
  · omega
  refine AQuiet.cons 22 rfl rfl rfl (OpJ.min2 rfl rfl rfl) ?_
  refine AQuiet.cons 4 rfl rfl rfl (OpJ.assign rfl rfl) ?_
  refine AQuiet.nil ?_
  refine AList.nil ?_
  refine AWp.ret ?_
  exact Fin.one rfl (rfl)
theorem mix1_ok (l : List Sk) (n : Int) (hl : l.length ≤ bigN) : Pure Try.prog 53 [.int .i64 n, .ip [sacksV l] 0] (.bool (decide (0 ≤ n) && decide (n ≤ (l.length : Int) - 1))) := by
  refine Pure.start (N := 9) Try.func53 rfl rfl (Nat.le_of_ble_eq_true rfl) ?_
  refine AWp.seq ?_
  refine AWp.region ?_
  refine AList.c 3 rfl rfl rfl (OpJ.assign rfl rfl) ?_
  refine AList.nil ?_
  refine AWp.seq ?_
  refine AWp.region ?_
  refine AList.c 4 rfl rfl rfl (OpJ.move rfl rfl) ?_
  refine AList.c 5 rfl rfl rfl (OpJ.load rfl rfl ty22 rfl) ?_
  refine AList.c 6 rfl rfl rfl (OpJ.lenSlice rfl rfl sl22 rfl) ?_
  refine AList.c 7 rfl rfl rfl (OpJ.sub_ rfl rfl rfl (i64ok ?_)) ?_
  · unfold bigN at hl; omega
  refine AList.c 8 rfl rfl rfl (OpJ.callP (within_ok _ _ _) rfl rfl rfl rfl rf54) ?_
  refine AList.c 3 rfl rfl rfl (OpJ.assign rfl rfl) ?_
  refine AList.nil ?_
  refine AWp.ret ?_
  exact Fin.one rfl (rfl)
theorem mix1_F (l : List Sk) (n : Int) (hl : l.length ≤ bigN) : FPure Try.prog (.func (.func 53) [] [.ip [sacksV l] 0]) [.int .i64 n] (.bool (decide (0 ≤ n) && decide (n ≤ (l.length : Int) - 1))) := ⟨53, [.int .i64 n, .ip [sacksV l] 0], rfl, rf53, mix1_ok l n hl⟩
theorem mix2_ok (s1 s2 : Sk) (t : Int) (w : Sp) (n : Int) (h1 : okSk s1) (h2 : okSk s2) (ht : t ≤ 100000) (hw : 0 ≤ w.lo ∧ w.lo ≤ w.hi ∧ w.hi ≤ 1000) (hn : 0 ≤ n) (hnt : n + 2 ≤ t) : Pure Try.prog 55 [.int .i64 n, .ip (s1.cells ++ s2.cells ++ [.int .i64 t, .int .i64 w.lo, .int .i64 w.hi]) 0] (.bool (decide (marg s1 s2 t w (n + 2) ≤ marg s1 s2 t w (n + 1)))) := by
  refine Pure.start (N := 13) Try.func55 rfl rfl (Nat.le_of_ble_eq_true rfl) ?_
  refine AWp.seq ?_
  refine AWp.region ?_
  refine AList.c 3 rfl rfl rfl (OpJ.assign rfl rfl) ?_
  refine AList.nil ?_
  refine AWp.seq ?_
  refine AWp.regionDraw 10 mixed (by kernel_rfl) (by decide) ?_
  refine AQuiet.cons 4 rfl rfl rfl (OpJ.load rfl rfl ty83 rfl) ?_
  refine AQuiet.cons 5 rfl rfl rfl (OpJ.move rfl rfl) ?_
  refine AQuiet.cons 6 rfl rfl rfl (OpJ.add rfl rfl rfl (i64ok ?_)) ?_
  · omega
  refine AQuiet.cons 7 rfl rfl rfl (OpJ.callP (margin_ok s1 s2 t w _ h1 h2 ht hw (by omega) (by omega)) rfl rfl rfl rfl rf56) ?_
  refine AQuiet.cons 8 rfl rfl rfl (OpJ.load rfl rfl ty83 rfl) ?_
  refine AQuiet.cons 9 rfl rfl rfl (OpJ.move rfl rfl) ?_
  refine AQuiet.cons 10 rfl rfl rfl (OpJ.add rfl rfl rfl (i64ok ?_)) ?_
  · omega
  refine AQuiet.cons 11 rfl rfl rfl (OpJ.callP (margin_ok s1 s2 t w _ h1 h2 ht hw (by omega) (by omega)) rfl rfl rfl rfl rf56) ?_
  refine AQuiet.cons 12 rfl rfl rfl (OpJ.leq rfl rfl rfl) ?_
  refine AQuiet.cons 3 rfl rfl rfl (OpJ.assign rfl rfl) ?_
  refine AQuiet.nil ?_
  refine AList.nil ?_
  refine AWp.ret ?_
  exact Fin.one rfl (rfl)
theorem mix3_ok (s1 s2 : Sk) (t : Int) (w : Sp) (n : Int) (h1 : okSk s1) (h2 : okSk s2) (ht : t ≤ 100000) (hw : 0 ≤ w.lo ∧ w.lo ≤ w.hi ∧ w.hi ≤ 1000) (hn : 0 ≤ n) (hnt : n + 1 ≤ t) : Pure Try.prog 57 [.int .i64 n, .ip (s1.cells ++ s2.cells ++ [.int .i64 t, .int .i64 w.lo, .int .i64 w.hi]) 0] (.bool (decide (0 ≤ marg s1 s2 t w (n + 1)))) := by
  refine Pure.start (N := 9) Try.func57 rfl rfl (Nat.le_of_ble_eq_true rfl) ?_
  refine AWp.seq ?_
  refine AWp.region ?_
  refine AList.c 3 rfl rfl rfl (OpJ.assign rfl rfl) ?_
  refine AList.nil ?_
  refine AWp.seq ?_
  refine AWp.region ?_
  refine AList.c 4 rfl rfl rfl (OpJ.load rfl rfl ty83 rfl) ?_
  refine AList.c 5 rfl rfl rfl (OpJ.move rfl rfl) ?_
  refine AList.c 6 rfl rfl rfl (OpJ.add rfl rfl rfl (i64ok ?_)) ?_
  · omega
  refine AList.c 7 rfl rfl rfl (OpJ.callP (margin_ok s1 s2 t w _ h1 h2 ht hw (by omega) (by omega)) rfl rfl rfl rfl rf56) ?_
  refine AList.c 8 rfl rfl rfl (OpJ.geq rfl rfl rfl) ?_
  refine AList.c 3 rfl rfl rfl (OpJ.assign rfl rfl) ?_
  refine AList.nil ?_
  refine AWp.ret ?_
  exact Fin.one rfl (rfl)
theorem mix4_ok (s1 s2 : Sk) (t : Int) (w : Sp) (n : Int) (r : Int) (h1 : okSk s1) (h2 : okSk s2) (ht : t ≤ 100000) (hw : 0 ≤ w.lo ∧ w.lo ≤ w.hi ∧ w.hi ≤ 1000) (hr : 0 ≤ r) (hn : 0 ≤ n) (hnt : r + 2 + n ≤ t) : Pure Try.prog 58 [.int .i64 n, .ip (s1.cells ++ s2.cells ++ [.int .i64 t, .int .i64 w.lo, .int .i64 w.hi]) 0, .ip [.int .i64 (1 + r)] 0] (.bool (decide (marg s1 s2 t w (r + 2 + n) < 0))) := by
  refine Pure.start (N := 12) Try.func58 rfl rfl (Nat.le_of_ble_eq_true rfl) ?_
  refine AWp.seq ?_
  refine AWp.region ?_
  refine AList.c 4 rfl rfl rfl (OpJ.assign rfl rfl) ?_
  refine AList.nil ?_
  refine AWp.seq ?_
  refine AWp.region ?_
  refine AList.c 5 rfl rfl rfl (OpJ.load rfl rfl ty83 rfl) ?_
  refine AList.c 6 rfl rfl rfl (OpJ.load rfl rfl ty3 rfl) ?_
  refine AList.c 7 rfl rfl rfl (OpJ.add rfl rfl rfl (i64ok ?_)) ?_
  · omega
  refine AList.c 8 rfl rfl rfl (OpJ.move rfl rfl) ?_
  refine AList.c 9 rfl rfl rfl (OpJ.add (m := r + 2 + n) rfl rfl rfl ((i64ok ?_).trans ?_)) ?_
  · omega
  · omega
  refine AList.c 10 rfl rfl rfl (OpJ.callP (margin_ok s1 s2 t w _ h1 h2 ht hw (by omega) (by omega)) rfl rfl rfl rfl rf56) ?_
  refine AList.c 11 rfl rfl rfl (OpJ.lss rfl rfl rfl) ?_
  refine AList.c 4 rfl rfl rfl (OpJ.assign rfl rfl) ?_
  refine AList.nil ?_
  refine AWp.ret ?_
  exact Fin.one rfl (rfl)
theorem mix2_F (s1 s2 : Sk) (tn : Nat) (w : Sp) (h1 : okSk s1) (h2 : okSk s2) (ht : (tn : Int) ≤ 100000) (hw : 0 ≤ w.lo ∧ w.lo ≤ w.hi ∧ w.hi ≤ 1000) (i : Nat) (hi : i < tn - 2) : FPure Try.prog (.func (.func 55) [] [.ip (s1.cells ++ s2.cells ++ [.int .i64 tn, .int .i64 w.lo, .int .i64 w.hi]) 0]) [.int .i64 (i : Int)] (.bool (decide (marg s1 s2 tn w ((i : Int) + 2) ≤ marg s1 s2 tn w ((i : Int) + 1)))) := ⟨55, [.int .i64 (i : Int), .ip (s1.cells ++ s2.cells ++ [.int .i64 tn, .int .i64 w.lo, .int .i64 w.hi]) 0], rfl, rf55, mix2_ok s1 s2 tn w i h1 h2 ht hw (by omega) (by omega)⟩
theorem mix3_F (s1 s2 : Sk) (tn : Nat) (w : Sp) (h1 : okSk s1) (h2 : okSk s2) (ht : (tn : Int) ≤ 100000) (hw : 0 ≤ w.lo ∧ w.lo ≤ w.hi ∧ w.hi ≤ 1000) (i : Nat) (hi : i + 1 ≤ tn) : FPure Try.prog (.func (.func 57) [] [.ip (s1.cells ++ s2.cells ++ [.int .i64 tn, .int .i64 w.lo, .int .i64 w.hi]) 0]) [.int .i64 (i : Int)] (.bool (decide (0 ≤ marg s1 s2 tn w ((i : Int) + 1)))) := ⟨57, [.int .i64 (i : Int), .ip (s1.cells ++ s2.cells ++ [.int .i64 tn, .int .i64 w.lo, .int .i64 w.hi]) 0], rfl, rf57, mix3_ok s1 s2 tn w i h1 h2 ht hw (by omega) (by omega)⟩
theorem mix4_F (s1 s2 : Sk) (tn r : Nat) (w : Sp) (h1 : okSk s1) (h2 : okSk s2) (ht : (tn : Int) ≤ 100000) (hw : 0 ≤ w.lo ∧ w.lo ≤ w.hi ∧ w.hi ≤ 1000) (i : Nat) (hi : r + 2 + i ≤ tn) : FPure Try.prog (.func (.func 58) [] [.ip (s1.cells ++ s2.cells ++ [.int .i64 tn, .int .i64 w.lo, .int .i64 w.hi]) 0, .ip [.int .i64 (1 + (r : Int))] 0]) [.int .i64 (i : Int)] (.bool (decide (marg s1 s2 tn w ((r : Int) + 2 + i) < 0))) := ⟨58, [.int .i64 (i : Int), .ip (s1.cells ++ s2.cells ++ [.int .i64 tn, .int .i64 w.lo, .int .i64 w.hi]) 0, .ip [.int .i64 (1 + (r : Int))] 0], rfl, rf58, mix4_ok s1 s2 tn w i r h1 h2 ht hw (by omega) (by omega) (by omega)⟩
end Go.Proofs.Ytmcejcidbekpkaa
