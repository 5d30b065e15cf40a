/-
  The law RecallTurned.
-/
import Derived.Test.YtlalikkkobpfgaaDoorRc11
import Derived.Test.YtlalikkkobpfgaaDoorRcW
set_option linter.unusedVariables false
set_option maxRecDepth 100000
set_option maxHeartbeats 4000000
set_option linter.unusedSimpArgs false
namespace Go.Proofs.YtlalikkkobpfgaaDoor
open Go.AF
theorem turned_ok (l : List Bat) (i : Nat) (s : Int) (h24 : l.length ≤ 24) (hi : i + 1 < l.length) : Pure Tryd.prog 23 [.int .i64 s, .ip [batV l] 0, .ip [.int .i64 ((i : Nat) : Int)] 0] (.int .i64 (tuI l.length i s)) := by
  have hp24 := Nat.pow_le_pow_right (show 0 < 2 by omega) h24
  have hpi := Nat.pow_le_pow_right (show 0 < 2 by omega) (show i + 2 ≤ 24 by omega)
  rw [Nat.pow_succ, Nat.pow_succ] at hpi
  have hpi1 : 2 ^ (i + 1) = 2 ^ i * 2 := Nat.pow_succ _ _
  have hp0 := Nat.two_pow_pos i
  refine Pure.start (N := 39) Tryd.func23 rfl rfl (Nat.le_of_ble_eq_true rfl) ?_
  refine AWp.seq ?_
  refine AWp.region ?_
  refine AList.c 4 rfl rfl rfl (OpJ.assign rfl rfl) ?_
  refine AList.nil ?_
  refine AWp.seq ?_
  refine AWp.seq ?_
  refine AWp.region ?_
  refine AList.c 7 rfl rfl rfl (OpJ.move rfl rfl) ?_
  refine AList.c 8 rfl rfl rfl (OpJ.lss rfl rfl rfl) ?_
  refine AList.c 9 rfl rfl rfl (OpJ.move rfl rfl) ?_
  refine AList.g 10 9 rfl rfl rfl rfl rfl rfl rfl [(0, _)] (fun h => And.intro (.inl rfl) (trivial)) (fun h => (OpJ.move rfl rfl)) ?_
  refine AList.g 11 9 rfl rfl rfl rfl rfl rfl rfl [(1, _)] (fun h => And.intro (.inl rfl) (trivial)) (fun h => (OpJ.load rfl rfl ty22 rfl)) ?_
  refine AList.g 12 9 rfl rfl rfl rfl rfl rfl rfl [(11, _)] (fun h => And.intro (.inr ⟨_, rfl, h⟩) (trivial)) (fun h => (OpJ.lenSlice rfl rfl sl22 rfl)) ?_
  refine AList.g 13 9 rfl rfl rfl rfl rfl rfl rfl [(12, _)] (fun h => And.intro (.inr ⟨_, rfl, h⟩) (trivial)) (fun h => (OpJ.shlN 1 l.length rfl rfl rfl (by show _ ≤ (64 : Nat); omega) (by show _ ≤ (9223372036854775807 : Int); rw [Nat.one_mul]; omega))) ?_
  refine AList.g 14 9 rfl rfl rfl rfl rfl rfl rfl [(10, _), (13, _)] (fun h => And.intro (.inr ⟨_, rfl, h⟩) (And.intro (.inr ⟨_, rfl, h⟩) (trivial))) (fun h => (OpJ.geq rfl rfl rfl)) ?_
  refine AList.c 15 rfl rfl rfl (OpJ.or_ rfl rfl rfl ?_) ?_
  · first | (intro h; rw [h]; rfl) | (intro h; simp_all)
  refine AList.nil ?_
  refine AWp.cond _ rfl (fun hc0 => ?_) (fun hc0 => ?_)
  · skip
    have hB : s < 0 ∨ s ≥ pw l.length := by have h := hc0; rw [Nat.one_mul] at h; simpa [pw] using h
    refine AWp.seq ?_
    refine AWp.region ?_
    refine AList.c 16 rfl rfl rfl (OpJ.move rfl rfl) ?_
    refine AList.c 4 rfl rfl rfl (OpJ.assign rfl rfl) ?_
    refine AList.nil ?_
    refine AWp.ret ?_
    refine Fin.oneE rfl rfl ?_
    unfold tuI; rw [if_pos hB]
  · skip
    have hB : ¬ (s < 0 ∨ s ≥ pw l.length) := by have h := hc0; rw [Nat.one_mul] at h; simpa [pw, not_or] using h
    have hs0 : 0 ≤ s := by omega
    obtain ⟨s, rfl⟩ : ∃ m : Nat, s = (m : Int) := ⟨s.toNat, by omega⟩
    have hsl : s < 2 ^ l.length := by unfold pw at hB; omega
    have hd1 := Nat.div_le_self s (2 ^ i)
    have hd2 := Nat.div_le_self s (2 ^ (i + 1))
    have ha1 : (s / 2 ^ i &&& 1) ≤ 1 := Nat.and_le_right
    have ha2 : (s / 2 ^ (i + 1) &&& 1) ≤ 1 := Nat.and_le_right
    have hm : (s ^^^ (s &&& (3 * 2 ^ i))) < 2 ^ 24 := bit_lt fun x hx => by have := bit_of_lt hsl ((xand_bit _ _ x).1 hx).1; omega
    have hq1 : (s / 2 ^ (i + 1) &&& 1) * 2 ^ i ≤ 1 * 2 ^ i := Nat.mul_le_mul_right _ ha2
    have hq2 : (s / 2 ^ i &&& 1) * 2 ^ (i + 1) ≤ 1 * 2 ^ (i + 1) := Nat.mul_le_mul_right _ ha1
    have ho1 : (s ^^^ (s &&& (3 * 2 ^ i))) ||| (s / 2 ^ (i + 1) &&& 1) * 2 ^ i < 2 ^ 24 := Nat.or_lt_two_pow hm (by omega)
    have ho2 : ((s ^^^ (s &&& (3 * 2 ^ i))) ||| (s / 2 ^ (i + 1) &&& 1) * 2 ^ i) ||| (s / 2 ^ i &&& 1) * 2 ^ (i + 1) < 2 ^ 24 := Nat.or_lt_two_pow ho1 (by omega)
    have hts : tuI l.length i (s : Int) = ((((s ^^^ (s &&& (3 * 2 ^ i))) ||| (s / 2 ^ (i + 1) &&& 1) * 2 ^ i) ||| (s / 2 ^ i &&& 1) * 2 ^ (i + 1) : Nat) : Int) := tuI_nat i hsl
    refine AWp.skip ?_
    refine AWp.seq ?_
    refine AWp.regionDraw 11 mixed (by kernel_rfl) (by decide) ?_
    refine AQuiet.cons 17 rfl rfl rfl (OpJ.move rfl rfl) ?_
    refine AQuiet.cons 18 rfl rfl rfl (OpJ.load rfl rfl ty3 rfl) ?_
    refine AQuiet.cons 19 rfl rfl rfl (OpJ.shrN s i rfl rfl rfl (by first | decide | (show _ ≤ (9223372036854775807 : Int); omega) | (show _ ≤ (4294967295 : Int); omega))) ?_
    refine AQuiet.cons 20 rfl rfl rfl (OpJ.andN (s / 2 ^ i) 1 rfl rfl rfl (by first | (show _ ≤ (9223372036854775807 : Int); omega) | (show _ ≤ (4294967295 : Int); omega)) (by first | decide | (show _ ≤ (9223372036854775807 : Int); omega) | (show _ ≤ (4294967295 : Int); omega))) ?_
    refine AQuiet.cons 21 rfl rfl rfl (OpJ.move rfl rfl) ?_
    refine AQuiet.cons 22 rfl rfl rfl (OpJ.load rfl rfl ty3 rfl) ?_
    refine AQuiet.cons 23 rfl rfl rfl (OpJ.add (m := ((i + 1 : Nat) : Int)) rfl rfl rfl ((i64ok ?_).trans ?_)) ?_
    · omega
    · rfl
    refine AQuiet.cons 24 rfl rfl rfl (OpJ.shrN s (i + 1) rfl rfl rfl (by first | decide | (show _ ≤ (9223372036854775807 : Int); omega) | (show _ ≤ (4294967295 : Int); omega))) ?_
    refine AQuiet.cons 25 rfl rfl rfl (OpJ.andN (s / 2 ^ (i + 1)) 1 rfl rfl rfl (by first | (show _ ≤ (9223372036854775807 : Int); omega) | (show _ ≤ (4294967295 : Int); omega)) (by first | decide | (show _ ≤ (9223372036854775807 : Int); omega) | (show _ ≤ (4294967295 : Int); omega))) ?_
    refine AQuiet.cons 5 rfl rfl rfl (OpJ.assign rfl rfl) ?_
    refine AQuiet.cons 6 rfl rfl rfl (OpJ.assign rfl rfl) ?_
    refine AQuiet.nil ?_
    refine AList.nil ?_
    refine AWp.seq ?_
    refine AWp.regionDraw 14 mixed (by kernel_rfl) (by decide) ?_
    refine AQuiet.cons 26 rfl rfl rfl (OpJ.move rfl rfl) ?_
    refine AQuiet.cons 27 rfl rfl rfl (OpJ.load rfl rfl ty3 rfl) ?_
    refine AQuiet.cons 28 rfl rfl rfl (OpJ.shlN 3 i rfl rfl rfl (by show _ ≤ (64 : Nat); omega) (by show _ ≤ (9223372036854775807 : Int); omega)) ?_
    refine AQuiet.cons 29 rfl rfl rfl (OpJ.andNotN s (3 * 2 ^ i) rfl rfl rfl (by first | (show _ ≤ (9223372036854775807 : Int); omega) | (show _ ≤ (4294967295 : Int); omega))) ?_
    refine AQuiet.cons 30 rfl rfl rfl (OpJ.move rfl rfl) ?_
    refine AQuiet.cons 31 rfl rfl rfl (OpJ.load rfl rfl ty3 rfl) ?_
    refine AQuiet.cons 32 rfl rfl rfl (OpJ.shlN (s / 2 ^ (i + 1) &&& 1) i rfl rfl rfl (by show _ ≤ (64 : Nat); omega) (by show _ ≤ (9223372036854775807 : Int); omega)) ?_
    refine AQuiet.cons 33 rfl rfl rfl (OpJ.orN (s ^^^ (s &&& (3 * 2 ^ i))) ((s / 2 ^ (i + 1) &&& 1) * 2 ^ i) rfl rfl rfl (by show _ ≤ (9223372036854775807 : Int); omega) (by show _ ≤ (9223372036854775807 : Int); omega) (by show _ ≤ (9223372036854775807 : Int); omega)) ?_
    refine AQuiet.cons 34 rfl rfl rfl (OpJ.move rfl rfl) ?_
    refine AQuiet.cons 35 rfl rfl rfl (OpJ.load rfl rfl ty3 rfl) ?_
    refine AQuiet.cons 36 rfl rfl rfl (OpJ.add (m := ((i + 1 : Nat) : Int)) rfl rfl rfl ((i64ok ?_).trans ?_)) ?_
    · omega
    · rfl
    refine AQuiet.cons 37 rfl rfl rfl (OpJ.shlN (s / 2 ^ i &&& 1) (i + 1) rfl rfl rfl (by show _ ≤ (64 : Nat); omega) (by show _ ≤ (9223372036854775807 : Int); omega)) ?_
    refine AQuiet.cons 38 rfl rfl rfl (OpJ.orN ((s ^^^ (s &&& (3 * 2 ^ i))) ||| (s / 2 ^ (i + 1) &&& 1) * 2 ^ i) ((s / 2 ^ i &&& 1) * 2 ^ (i + 1)) rfl rfl rfl (by show _ ≤ (9223372036854775807 : Int); omega) (by show _ ≤ (9223372036854775807 : Int); omega) (by show _ ≤ (9223372036854775807 : Int); omega)) ?_
    refine AQuiet.cons 4 rfl rfl rfl (OpJ.assign rfl rfl) ?_
    refine AQuiet.nil ?_
    refine AList.nil ?_
    refine AWp.ret ?_
    refine Fin.oneE rfl rfl ?_
    rw [hts]
theorem oneAll {α : Type} {f : α → List PV} (h : ∀ x, (((f x).map V.p).all oneV) = true) (l : List α) : (((l.flatMap f).map V.p).all oneV) = true := by
  rw [List.all_eq_true]
  intro v hv
  rw [List.map_flatMap, List.mem_flatMap] at hv
  obtain ⟨x, _, h2⟩ := hv
  exact List.all_eq_true.1 (h x) v h2
theorem copyB (l : List Bat) (i g : Nat) : V.p (.is ((tcG l i g).flatMap Bat.cells) (0 + l.length)) = V.p (batV (tcG l i g)) := by rw [Nat.zero_add]; unfold batV; rw [tcG_len]
theorem recallTurned_main (l : List Bat) (bad good : Int) (w8 : Nat) (hb : l.length ≤ bigN) (hw : w8 ≤ 255) : Pure Tryd.prog 9 [batV l, .int .i64 bad, .int .i64 good, .int .u8 (w8 : Int)] (.bool true) := by
  have hb2 := hb
  unfold bigN at hb2
  refine Pure.start (N := 188) Tryd.func9 rfl rfl (Nat.le_of_ble_eq_true rfl) ?_
  refine AWp.seq ?_
  refine AWp.region ?_
  refine AList.c 4 rfl rfl rfl (OpJ.boxImm rfl rfl rfl) ?_
  refine AList.c 8 rfl rfl rfl (OpJ.assign rfl rfl) ?_
  refine AList.nil ?_
  refine AWp.seq ?_
  refine AWp.seq ?_
  refine AWp.region ?_
  refine AList.c 27 rfl rfl rfl (OpJ.load rfl rfl ty22 rfl) ?_
  refine AList.c 28 rfl rfl rfl (OpJ.lenSlice rfl rfl sl22 rfl) ?_
  refine AList.c 29 rfl rfl rfl (OpJ.lss rfl rfl rfl) ?_
  refine AList.c 30 rfl rfl rfl (OpJ.move rfl rfl) ?_
  refine AList.g 31 30 rfl rfl rfl rfl rfl rfl rfl [(4, _)] (fun h => And.intro (.inl rfl) (trivial)) (fun h => (OpJ.load rfl rfl ty22 rfl)) ?_
  refine AList.g 32 30 rfl rfl rfl rfl rfl rfl rfl [(31, _)] (fun h => And.intro (.inr ⟨_, rfl, h⟩) (trivial)) (fun h => (OpJ.lenSlice rfl rfl sl22 rfl)) ?_
  refine AList.g 33 30 rfl rfl rfl rfl rfl rfl rfl [(32, _)] (fun h => And.intro (.inr ⟨_, rfl, h⟩) (trivial)) (fun h => (OpJ.gtr rfl rfl rfl)) ?_
  refine AList.c 34 rfl rfl rfl (OpJ.or_ rfl rfl rfl ?_) ?_
  · first | (intro h; rw [h]; rfl) | (intro h; simp_all)
  refine AList.c 35 rfl rfl rfl (OpJ.move rfl rfl) ?_
  refine AList.g 36 35 rfl rfl rfl rfl rfl rfl rfl [(4, _)] (fun h => And.intro (.inl rfl) (trivial)) (fun h => (OpJ.load rfl rfl ty22 rfl)) ?_
  refine AList.g 37 35 rfl rfl rfl rfl rfl rfl rfl [(36, _)] (fun h => And.intro (.inr ⟨_, rfl, h⟩) (trivial)) (fun h => (OpJ.callP (rcards_ok l hb) rfl rfl rfl rfl rf21)) ?_
  refine AList.g 38 35 rfl rfl rfl rfl rfl rfl rfl [(37, _)] (fun h => And.intro (.inr ⟨_, rfl, h⟩) (trivial)) (fun h => (OpJ.not_ rfl rfl)) ?_
  refine AList.c 39 rfl rfl rfl (OpJ.or_ rfl rfl rfl ?_) ?_
  · first | (intro h; rw [h]; rfl) | (intro h; simp_all)
  refine AList.nil ?_
  refine AWp.cond _ rfl (fun hc0 => ?_) (fun hc0 => ?_)
  · skip
    refine AWp.seq ?_
    refine AWp.region ?_
    refine AList.c 40 rfl rfl rfl (OpJ.callP (awake_ok) rfl rfl rfl rfl rf10) ?_
    refine AList.c 8 rfl rfl rfl (OpJ.assign rfl rfl) ?_
    refine AList.nil ?_
    refine AWp.ret ?_
    exact Fin.oneE rfl rfl rfl
  · skip
    simp only [Bool.or_eq_false_iff, Bool.and_eq_true, Bool.not_eq_false', decide_eq_true_eq, decide_eq_false_iff_not, Nat.one_mul] at hc0
    obtain ⟨⟨hn2, hn30⟩, hC⟩ := hc0
    have h24 := crd24 hC
    have hp24 := Nat.pow_le_pow_right (show 0 < 2 by omega) h24
    have hp1 := Nat.two_pow_pos l.length
    have ho := Nat.mod_lt w8 (show 0 < l.length - 1 by omega)
    refine AWp.skip ?_
    refine AWp.seq ?_
    refine AWp.region ?_
    refine AList.c 41 rfl rfl rfl (OpJ.move rfl rfl) ?_
    refine AList.c 42 rfl rfl rfl (OpJ.convInt rfl rfl (by rw [un5]; rfl) un3 (i64ok ?_)) ?_
    · omega
    refine AList.c 43 rfl rfl rfl (OpJ.load rfl rfl ty22 rfl) ?_
    refine AList.c 44 rfl rfl rfl (OpJ.lenSlice rfl rfl sl22 rfl) ?_
    refine AList.c 45 rfl rfl rfl (OpJ.sub_ (m := ((l.length - 1 : Nat) : Int)) rfl rfl rfl ((i64ok ?_).trans ?_)) ?_
    · omega
    · omega
    refine AList.c 46 rfl rfl rfl (OpJ.rem (m := ((w8 % (l.length - 1) : Nat) : Int)) rfl rfl rfl ?_ ?_) ?_
    · omega
    · rfl
    refine AList.c 9 rfl rfl rfl (OpJ.allocOwn rfl zr3 rfl) ?_
    refine AList.c0 rfl rfl (OpJ.store rfl rfl rfl rfl rfl ty3 rfl rfl) ?_
    refine AList.nil ?_
    refine AWp.seq ?_
    refine AWp.seq ?_
    generalize hie : w8 % (l.length - 1) = i at ho ⊢
    have hi : i + 1 < l.length := by omega
    have hfb := (hC (i + 1) hi).2.1
    have hpb := pw24 (n := i + 1) (by omega)
    have hfr : (bt l (i + 1)).f = ((frN l (i + 1) : Nat) : Int) := by unfold frN; omega
    have hfl : frN l (i + 1) ≤ 16777216 := by unfold frN; omega
    refine AWp.freeze 0 rfl rfl ?_
    refine AWp.norm [] [(0, _), (1, _), (2, _), (4, _), (9, _)] [] rfl (by repeat (first | exact Sub.nil | refine Sub.cons rfl ?_)) rfl ?_
    refine AWp.regionDraw 8 mixed (by kernel_rfl) (by decide) ?_
    refine AQuiet.cons 47 rfl rfl rfl (OpJ.load rfl rfl ty22 rfl) ?_
    refine AQuiet.cons 48 rfl rfl rfl (OpJ.load rfl rfl ty3 rfl) ?_
    refine AQuiet.cons 49 rfl rfl rfl (OpJ.add (m := ((i + 1 : Nat) : Int)) rfl rfl rfl ((i64ok ?_).trans ?_)) ?_
    · omega
    · rfl
    refine AQuiet.cons 50 rfl rfl rfl (OpJ.indexG (g := bt l) bt_get rfl rfl rfl sl22 el22 rfl (fun _ => rfl) (by decide) hi) ?_
    refine AQuiet.cons 51 rfl rfl rfl (OpJ.fieldAddr rfl rfl fd39_0 rfl) ?_
    refine AQuiet.cons 52 rfl rfl rfl (OpJ.load (v := .p (.int .i64 (bt l (i + 1)).f)) rfl rfl ty3 rfl) ?_
    refine AQuiet.cons 53 rfl rfl rfl (OpJ.load rfl rfl ty3 rfl) ?_
    rw [hfr]
    refine AQuiet.cons 54 rfl rfl rfl (OpJ.callP (rhas_ok (frN l (i + 1)) i (by omega) (by omega)) rfl rfl rfl rfl rf22) ?_
    refine AQuiet.nil ?_
    refine AList.nil ?_
    refine AWp.cond _ rfl (fun hc1 => ?_) (fun hc1 => ?_)
    · skip
      refine AWp.seq ?_
      refine AWp.region ?_
      refine AList.c 55 rfl rfl rfl (OpJ.callP (awake_ok) rfl rfl rfl rfl rf10) ?_
      refine AList.c 8 rfl rfl rfl (OpJ.assign rfl rfl) ?_
      refine AList.nil ?_
      refine AWp.ret ?_
      exact Fin.one rfl (rfl)
    · skip
      have hbi : (frN l (i + 1)).testBit i = false := hc1
      refine AWp.skip ?_
      refine AWp.seq ?_
      refine AWp.region ?_
      refine AList.c 56 rfl rfl rfl (OpJ.makeFunc rfl rfl rfl) ?_
      refine AList.c 10 rfl rfl rfl (OpJ.assign rfl rfl) ?_
      refine AList.nil ?_
      refine AWp.seq ?_
      refine AWp.region ?_
      refine AList.c 57 rfl rfl rfl (OpJ.buildOwn rfl slz22 (by decide) rfl rfl) ?_
      refine AList.c 58 rfl rfl rfl (OpJ.load rfl rfl ty22 rfl) ?_
      refine AList.c 59 rfl rfl rfl (OpJ.appendRow (i := 0) (len := 0) (cs := []) rfl rfl rfl slz22 sl22 rfl ?_ (asrc_is (xs := l.flatMap Bat.cells) (n := l.length) (sz := 2) (flat_len (c := 2) (fun _ => rfl) l)) (oneAll (fun _ => rfl) l) by39 (by decide) ?_) ?_
      · rfl
      · show (2 * (0 + l.length) + 192) * 16 ≤ 281474976710656; omega
      refine AList.c 11 rfl rfl rfl (OpJ.assign rfl rfl) ?_
      refine AList.nil ?_
      refine AWp.seq ?_
      refine AWp.regionDrawG 16 0 [1] [([], false), ([], false), ([], false), ([], false), ([], false), ([], false), ([], false), ([], false), ([], false), ([], false), ([], false), ([], false), ([], false), ([], false), ([1], false), ([1], true)] mixed (by kernel_rfl) (by decide) (by kernel_rfl) rfl (by show [_, Blk.row (renL _ (List.map V.p _)) _] = _; rw [renL_pure]; rfl) ?_
      refine AQG.cons 60 rfl rfl rfl (fun _ => (OpJ.move rfl rfl)) rfl ?_
      refine AQG.cons 61 rfl rfl rfl (fun _ => (OpJ.load rfl rfl ty3 rfl)) rfl ?_
      refine AQG.cons 62 rfl rfl rfl (fun _ => (OpJ.move rfl rfl)) rfl ?_
      refine AQG.cons 63 rfl rfl rfl (fun _ => (OpJ.load rfl rfl ty3 rfl)) rfl ?_
      refine AQG.cons 64 rfl rfl rfl (fun _ => (OpJ.add (m := ((i + 1 : Nat) : Int)) rfl rfl rfl ((i64ok ?_).trans ?_))) rfl ?_
      · omega
      · rfl
      refine AQG.cons 65 rfl rfl rfl (fun _ => (OpJ.load rfl rfl ty22 rfl)) rfl ?_
      refine AQG.cons 66 rfl rfl rfl (fun _ => (OpJ.load rfl rfl ty3 rfl)) rfl ?_
      refine AQG.cons 67 rfl rfl rfl (fun _ => (OpJ.add (m := ((i + 1 : Nat) : Int)) rfl rfl rfl ((i64ok ?_).trans ?_))) rfl ?_
      · omega
      · rfl
      refine AQG.cons 68 rfl rfl rfl (fun _ => (OpJ.indexG (g := bt l) bt_get rfl rfl rfl sl22 el22 rfl (fun _ => rfl) (by decide) hi)) rfl ?_
      refine AQG.cons 69 rfl rfl rfl (fun _ => (OpJ.load (v := .p (.agg (bt l (i + 1)).cells)) rfl rfl ty39 rfl)) rfl ?_
      refine AQG.cons 70 rfl rfl rfl (fun _ => (OpJ.load rfl rfl ty22 rfl)) rfl ?_
      refine AQG.cons 71 rfl rfl rfl (fun _ => (OpJ.load rfl rfl ty3 rfl)) rfl ?_
      refine AQG.cons 72 rfl rfl rfl (fun _ => (OpJ.indexG (g := bt l) bt_get rfl rfl rfl sl22 el22 rfl (fun _ => rfl) (by decide) (show i < l.length by omega))) rfl ?_
      refine AQG.cons 73 rfl rfl rfl (fun _ => (OpJ.load (v := .p (.agg (bt l i).cells)) rfl rfl ty39 rfl)) rfl ?_
      refine AQG.cons 74 rfl rfl rfl (fun _ => (OpJ.indexRow rfl rfl rfl sl22 el22 (by omega))) rfl ?_
      refine AQG.put (blk := .row (((l.set i (bt l (i + 1))).flatMap Bat.cells).map .p) 39) (v := .top) 1 rfl rfl rfl rfl (fun _ => (OpJ.storeRow (off := i * 2 + 0) (i := 1) (f := Bat.cells) (c := 2) (k := i) (j := 0) (xs := l) (z := (bt l (i + 1))) (ws := [.int .i64 (bt l (i + 1)).f, .int .i64 (bt l (i + 1)).s]) rfl rfl rfl rfl rfl ty39 rfl rfl rfl rfl (fun _ => rfl) (by omega) (Nat.le_refl 2) rfl)) rfl (congrArg (fun z => Blk.row z 39) (renL_pure _ _)) ?_
      refine AQG.nil ?_
      refine AList.c 75 rfl rfl rfl (OpJ.indexRow rfl rfl rfl sl22 el22 (by omega)) ?_
      refine AList.c0 rfl rfl (OpJ.storeRow (f := Bat.cells) (c := 2) (k := (i + 1)) (j := 0) (xs := (l.set i (bt l (i + 1)))) (z := (bt l i)) (ws := [.int .i64 (bt l i).f, .int .i64 (bt l i).s]) rfl rfl rfl rfl rfl ty39 rfl rfl rfl (by omega) (fun _ => rfl) (by rw [List.length_set]; omega) (Nat.le_refl 2) rfl) ?_
      refine AList.nil ?_
      refine AWp.seq ?_
      refine AWp.seq ?_
      rw [tcG_0 l hi]
      refine AWp.region ?_
      refine AList.c 76 rfl rfl rfl (OpJ.load rfl rfl ty3 rfl) ?_
      refine AList.c 77 rfl rfl rfl (OpJ.add (m := ((i + 2 : Nat) : Int)) rfl rfl rfl ((i64ok ?_).trans ?_)) ?_
      · omega
      · rfl
      refine AList.c 12 rfl rfl rfl (OpJ.assign rfl rfl) ?_
      refine AList.nil ?_
      refine AWp.block ?_
      refine AWp.loopHL [1, 2, 4, 8, 9, 10, 11, 13, 14, 15, 16, 17, 18, 19, 20, 21, 22, 23, 24, 25, 26, 95, 96, 97, 98, 99, 100, 101, 102, 103, 104, 105, 106, 107, 108, 109, 110, 111, 112, 113, 114, 115, 116, 117, 118, 119, 120, 121, 122, 123, 124, 125, 126, 127, 128, 129, 130, 131, 132, 133, 134, 135, 136, 137, 138, 139, 140, 141, 142, 143, 144, 145, 146, 147, 148, 149, 150, 151, 152, 153, 154, 155, 156, 157, 158, 159, 160, 161, 162, 163, 164, 165, 166, 167, 168, 169, 170, 171, 172, 173, 174, 175, 176, 177, 178, 179, 180, 181, 182, 183, 184, 185, 186, 187] (fun g => [(12, .p (.int .i64 ((g : Nat) : Int)))]) (fun g => [.dead, .row (((tcG l i g).flatMap Bat.cells).map .p) 39]) (fun g => i + 2 ≤ g ∧ g ≤ l.length) (fun g => l.length - g) (i + 2) ⟨Nat.le_refl _, by omega⟩ (To.sub (Sub.chk (Sub.cons rfl (Sub.nil)))) (fun k hg => ?_)
      refine AWp.seq ?_
      refine AWp.seq ?_
      refine AWp.region ?_
      refine AList.c 78 rfl rfl rfl (OpJ.move rfl rfl) ?_
      refine AList.c 79 rfl rfl rfl (OpJ.move rfl rfl) ?_
      refine AList.c 80 rfl rfl rfl (OpJ.lenSlice rfl rfl sl22 rfl) ?_
      refine AList.c 81 rfl rfl rfl (OpJ.lss rfl rfl rfl) ?_
      refine AList.nil ?_
      refine AWp.cond _ rfl (fun hc2 => ?_) (fun hc2 => ?_)
      · skip
        have hk0 : k < l.length := by have h := of_decide_eq_true hc2; omega
        refine AWp.skip ?_
        refine AWp.seq ?_
        refine AWp.block ?_
        refine AWp.region ?_
        refine AList.c 84 rfl rfl rfl (OpJ.move rfl rfl) ?_
        refine AList.c 85 rfl rfl rfl (OpJ.move rfl rfl) ?_
        refine AList.c 86 rfl rfl rfl (OpJ.move rfl rfl) ?_
        refine AList.c 87 rfl rfl rfl (OpJ.load rfl rfl ty22 rfl) ?_
        refine AList.c 88 rfl rfl rfl (OpJ.move rfl rfl) ?_
        refine AList.c 89 rfl rfl rfl (OpJ.indexG (g := bt l) bt_get rfl rfl rfl sl22 el22 rfl (fun _ => rfl) (by decide) hk0) ?_
        refine AList.c 90 rfl rfl rfl (OpJ.fieldAddr rfl rfl fd39_0 rfl) ?_
        refine AList.c 91 rfl rfl rfl (OpJ.load (v := .p (.int .i64 (bt l k).f)) rfl rfl ty3 rfl) ?_
        refine AList.c 92 rfl rfl rfl (OpJ.callF (f := .func (.func 23) [] [.ip [batV l] 0, .ip [.int .i64 ((i : Nat) : Int)] 0]) (args := [.int .i64 ((bt l k).f)]) (r := .int .i64 (tuI l.length i ((bt l k).f))) (⟨23, [.int .i64 ((bt l k).f), .ip [batV l] 0, .ip [.int .i64 ((i : Nat) : Int)] 0], rfl, rf23, turned_ok l i ((bt l k).f) h24 hi⟩) rfl rfl rfl) ?_
        refine AList.c 93 rfl rfl rfl (OpJ.indexRow rfl rfl rfl sl22 el22 (by omega)) ?_
        refine AList.c 94 rfl rfl rfl (OpJ.fieldAddr rfl rfl fd39_0 rfl) ?_
        refine AList.c0 rfl rfl (OpJ.storeRow (f := Bat.cells) (c := 2) (k := k) (j := 0) (xs := (tcG l i k)) (z := ⟨tuI l.length i (bt l k).f, (bt l k).s⟩) (ws := [.int .i64 (tuI l.length i (bt l k).f)]) rfl rfl rfl rfl rfl ty3 rfl rfl rfl (by omega) (fun _ => rfl) (by rw [tcG_len]; exact hk0) (show 0 + 1 ≤ 2 by decide) (by rw [bt_get _ (by rw [tcG_len]; exact hk0), tcG_at l i k hk0]; unfold tcF; rw [if_neg (by omega), if_neg (by omega), if_neg (by omega)]; rfl)) ?_
        refine AList.nil ?_
        refine AWp.region ?_
        refine AList.c 82 rfl rfl rfl (OpJ.move rfl rfl) ?_
        refine AList.c 83 rfl rfl rfl (OpJ.add rfl rfl rfl (i64ok ?_)) ?_
        · omega
        refine AList.c 12 rfl rfl rfl (OpJ.assign rfl rfl) ?_
        refine AList.nil ?_
        refine ⟨k + 1, ?_, ?_, ?_⟩
        · omega
        · omega
        rw [tcG_succ l hg.1 hk0]
        exact To.sub (Sub.cons rfl (by repeat (first | exact Sub.nil | refine Sub.cons rfl ?_)))
      · skip
        obtain rfl : k = l.length := by have h := of_decide_eq_false hc2; omega
        refine AWp.exit ?_
        refine AWp.seq ?_
        refine AWp.freeze 1 rfl (allP_map _) ?_
        have hbx : (tcL l i).length ≤ bigN := by rw [tcL_len]; exact hb
        have hCx := tc_ok hC hi hbi
        refine AWp.norm [] [(1, .p (.int .i64 bad)), (2, .p (.int .i64 good)), (4, .p (.ip [batV l] 0)), (9, .p (.ip [.int .i64 ((i : Nat) : Int)] 0)), (10, .p (.func (.func 23) [] [.ip [batV l] 0, .ip [.int .i64 ((i : Nat) : Int)] 0])), (11, .p (.is ((tcG l i l.length).flatMap Bat.cells) (0 + l.length)))] [] rfl (by repeat (first | exact Sub.nil | refine Sub.cons rfl ?_)) rfl ?_
        rw [copyB]
        refine AWp.region ?_
        refine AList.c 96 rfl rfl rfl (OpJ.load rfl rfl ty22 rfl) ?_
        refine AList.c 97 rfl rfl rfl (OpJ.move rfl rfl) ?_
        refine AList.c 98 rfl rfl rfl (OpJ.move rfl rfl) ?_
        refine AList.c 99 rfl rfl rfl (OpJ.callP (Blame_ok l bad good hb) rfl rfl rfl rfl rf17) ?_
        refine AList.c 95 rfl rfl rfl (OpJ.move rfl rfl) ?_
        refine AList.c 100 rfl rfl rfl (OpJ.extract rfl rfl rfl) ?_
        refine AList.c 101 rfl rfl rfl (OpJ.extract rfl rfl rfl) ?_
        refine AList.c 13 rfl rfl rfl (OpJ.assign rfl rfl) ?_
        refine AList.c 14 rfl rfl rfl (OpJ.assign rfl rfl) ?_
        refine AList.nil ?_
        refine AWp.seq ?_
        refine AWp.region ?_
        refine AList.c 103 rfl rfl rfl (OpJ.move rfl rfl) ?_
        refine AList.c 104 rfl rfl rfl (OpJ.move rfl rfl) ?_
        refine AList.c 105 rfl rfl rfl (OpJ.move rfl rfl) ?_
        refine AList.c 106 rfl rfl rfl (OpJ.callF (f := .func (.func 23) [] [.ip [batV l] 0, .ip [.int .i64 ((i : Nat) : Int)] 0]) (args := [.int .i64 (bad)]) (r := .int .i64 (tuI l.length i (bad))) (⟨23, [.int .i64 (bad), .ip [batV l] 0, .ip [.int .i64 ((i : Nat) : Int)] 0], rfl, rf23, turned_ok l i (bad) h24 hi⟩) rfl rfl rfl) ?_
        refine AList.c 107 rfl rfl rfl (OpJ.move rfl rfl) ?_
        refine AList.c 108 rfl rfl rfl (OpJ.move rfl rfl) ?_
        refine AList.c 109 rfl rfl rfl (OpJ.callF (f := .func (.func 23) [] [.ip [batV l] 0, .ip [.int .i64 ((i : Nat) : Int)] 0]) (args := [.int .i64 (good)]) (r := .int .i64 (tuI l.length i (good))) (⟨23, [.int .i64 (good), .ip [batV l] 0, .ip [.int .i64 ((i : Nat) : Int)] 0], rfl, rf23, turned_ok l i (good) h24 hi⟩) rfl rfl rfl) ?_
        refine AList.c 110 rfl rfl rfl (OpJ.callP (Blame_ok (tcL l i) (tuI l.length i bad) (tuI l.length i good) hbx) rfl rfl rfl rfl rf17) ?_
        refine AList.c 102 rfl rfl rfl (OpJ.move rfl rfl) ?_
        refine AList.c 111 rfl rfl rfl (OpJ.extract rfl rfl rfl) ?_
        refine AList.c 112 rfl rfl rfl (OpJ.extract rfl rfl rfl) ?_
        refine AList.c 15 rfl rfl rfl (OpJ.assign rfl rfl) ?_
        refine AList.c 16 rfl rfl rfl (OpJ.assign rfl rfl) ?_
        refine AList.nil ?_
        refine AWp.seq ?_
        refine AWp.region ?_
        refine AList.c 114 rfl rfl rfl (OpJ.load rfl rfl ty22 rfl) ?_
        refine AList.c 115 rfl rfl rfl (OpJ.move rfl rfl) ?_
        refine AList.c 116 rfl rfl rfl (OpJ.move rfl rfl) ?_
        refine AList.c 117 rfl rfl rfl (OpJ.callP (Recall_ok l bad good hb) rfl rfl rfl rfl rf19) ?_
        refine AList.c 113 rfl rfl rfl (OpJ.move rfl rfl) ?_
        refine AList.c 118 rfl rfl rfl (OpJ.extract rfl rfl rfl) ?_
        refine AList.c 119 rfl rfl rfl (OpJ.extract rfl rfl rfl) ?_
        refine AList.c 120 rfl rfl rfl (OpJ.extract rfl rfl rfl) ?_
        refine AList.c 18 rfl rfl rfl (OpJ.allocOwn rfl zr32 rfl) ?_
        refine AList.c 17 rfl rfl rfl (OpJ.assign rfl rfl) ?_
        refine AList.c0 rfl rfl (OpJ.store rfl rfl rfl rfl rfl ty32 rfl rfl) ?_
        refine AList.c 19 rfl rfl rfl (OpJ.assign rfl rfl) ?_
        refine AList.nil ?_
        refine AWp.seq ?_
        refine AWp.region ?_
        refine AList.c 122 rfl rfl rfl (OpJ.move rfl rfl) ?_
        refine AList.c 123 rfl rfl rfl (OpJ.move rfl rfl) ?_
        refine AList.c 124 rfl rfl rfl (OpJ.move rfl rfl) ?_
        refine AList.c 125 rfl rfl rfl (OpJ.callF (f := .func (.func 23) [] [.ip [batV l] 0, .ip [.int .i64 ((i : Nat) : Int)] 0]) (args := [.int .i64 (bad)]) (r := .int .i64 (tuI l.length i (bad))) (⟨23, [.int .i64 (bad), .ip [batV l] 0, .ip [.int .i64 ((i : Nat) : Int)] 0], rfl, rf23, turned_ok l i (bad) h24 hi⟩) rfl rfl rfl) ?_
        refine AList.c 126 rfl rfl rfl (OpJ.move rfl rfl) ?_
        refine AList.c 127 rfl rfl rfl (OpJ.move rfl rfl) ?_
        refine AList.c 128 rfl rfl rfl (OpJ.callF (f := .func (.func 23) [] [.ip [batV l] 0, .ip [.int .i64 ((i : Nat) : Int)] 0]) (args := [.int .i64 (good)]) (r := .int .i64 (tuI l.length i (good))) (⟨23, [.int .i64 (good), .ip [batV l] 0, .ip [.int .i64 ((i : Nat) : Int)] 0], rfl, rf23, turned_ok l i (good) h24 hi⟩) rfl rfl rfl) ?_
        refine AList.c 129 rfl rfl rfl (OpJ.callP (Recall_ok (tcL l i) (tuI l.length i bad) (tuI l.length i good) hbx) rfl rfl rfl rfl rf19) ?_
        refine AList.c 121 rfl rfl rfl (OpJ.move rfl rfl) ?_
        refine AList.c 130 rfl rfl rfl (OpJ.extract rfl rfl rfl) ?_
        refine AList.c 131 rfl rfl rfl (OpJ.extract rfl rfl rfl) ?_
        refine AList.c 132 rfl rfl rfl (OpJ.extract rfl rfl rfl) ?_
        refine AList.c 21 rfl rfl rfl (OpJ.allocOwn rfl zr32 rfl) ?_
        refine AList.c 20 rfl rfl rfl (OpJ.assign rfl rfl) ?_
        refine AList.c0 rfl rfl (OpJ.store rfl rfl rfl rfl rfl ty32 rfl rfl) ?_
        refine AList.c 22 rfl rfl rfl (OpJ.assign rfl rfl) ?_
        refine AList.nil ?_
        refine AWp.seq ?_
        refine AWp.region ?_
        refine AList.c 134 rfl rfl rfl (OpJ.load rfl rfl ty22 rfl) ?_
        refine AList.c 135 rfl rfl rfl (OpJ.load rfl rfl ty3 rfl) ?_
        refine AList.c 136 rfl rfl rfl (OpJ.callP (Back_in l i hb hC (by omega)) rfl rfl rfl rfl rf11) ?_
        refine AList.c 133 rfl rfl rfl (OpJ.move rfl rfl) ?_
        refine AList.c 137 rfl rfl rfl (OpJ.extract rfl rfl rfl) ?_
        refine AList.c 138 rfl rfl rfl (OpJ.extract rfl rfl rfl) ?_
        refine AList.c 23 rfl rfl rfl (OpJ.assign rfl rfl) ?_
        refine AList.c 24 rfl rfl rfl (OpJ.assign rfl rfl) ?_
        refine AList.nil ?_
        refine AWp.seq ?_
        refine AWp.region ?_
        refine AList.c 140 rfl rfl rfl (OpJ.move rfl rfl) ?_
        refine AList.c 141 rfl rfl rfl (OpJ.load rfl rfl ty3 rfl) ?_
        refine AList.c 142 rfl rfl rfl (OpJ.add (m := ((i + 1 : Nat) : Int)) rfl rfl rfl ((i64ok ?_).trans ?_)) ?_
        · omega
        · rfl
        refine AList.c 143 rfl rfl rfl (OpJ.callP (Back_in (tcL l i) (i + 1) hbx hCx (by rw [tcL_len]; exact hi)) rfl rfl rfl rfl rf11) ?_
        refine AList.c 139 rfl rfl rfl (OpJ.move rfl rfl) ?_
        refine AList.c 144 rfl rfl rfl (OpJ.extract rfl rfl rfl) ?_
        refine AList.c 145 rfl rfl rfl (OpJ.extract rfl rfl rfl) ?_
        refine AList.c 25 rfl rfl rfl (OpJ.assign rfl rfl) ?_
        refine AList.c 26 rfl rfl rfl (OpJ.assign rfl rfl) ?_
        refine AList.nil ?_
        refine AWp.seq ?_
        refine AWp.region ?_
        refine AList.c 146 rfl rfl rfl (OpJ.move rfl rfl) ?_
        refine AList.c 147 rfl rfl rfl (OpJ.move rfl rfl) ?_
        refine AList.c 148 rfl rfl rfl (OpJ.callF (f := .func (.func 23) [] [.ip [batV l] 0, .ip [.int .i64 ((i : Nat) : Int)] 0]) (args := [.int .i64 (((blR l bad good : Nat) : Int))]) (r := .int .i64 (tuI l.length i (((blR l bad good : Nat) : Int)))) (⟨23, [.int .i64 (((blR l bad good : Nat) : Int)), .ip [batV l] 0, .ip [.int .i64 ((i : Nat) : Int)] 0], rfl, rf23, turned_ok l i (((blR l bad good : Nat) : Int)) h24 hi⟩) rfl rfl rfl) ?_
        refine AList.c 149 rfl rfl rfl (OpJ.move rfl rfl) ?_
        refine AList.c 150 rfl rfl rfl (OpJ.eql rfl rfl rfl) ?_
        refine AList.c 151 rfl rfl rfl (OpJ.move rfl rfl) ?_
        refine AList.g 152 151 rfl rfl rfl rfl rfl rfl rfl [(14, _)] (fun h => And.intro (.inl rfl) (trivial)) (fun h => (OpJ.move rfl rfl)) ?_
        refine AList.g 153 151 rfl rfl rfl rfl rfl rfl rfl [(16, _)] (fun h => And.intro (.inl rfl) (trivial)) (fun h => (OpJ.move rfl rfl)) ?_
        refine AList.g 154 151 rfl rfl rfl rfl rfl rfl rfl [(152, _), (153, _)] (fun h => And.intro (.inr ⟨_, rfl, h⟩) (And.intro (.inr ⟨_, rfl, h⟩) (trivial))) (fun h => (OpJ.eql rfl rfl rfl)) ?_
        refine AList.c 155 rfl rfl rfl (OpJ.and_ rfl rfl rfl ?_) ?_
        · first | (intro h; rw [h]; rfl) | (intro h; simp_all)
        refine AList.c 156 rfl rfl rfl (OpJ.move rfl rfl) ?_
        refine AList.g 157 156 rfl rfl rfl rfl rfl rfl rfl [(10, _)] (fun h => And.intro (.inl rfl) (trivial)) (fun h => (OpJ.move rfl rfl)) ?_
        refine AList.g 158 156 rfl rfl rfl rfl rfl rfl rfl [(17, _)] (fun h => And.intro (.inl rfl) (trivial)) (fun h => (OpJ.move rfl rfl)) ?_
        refine AList.g 159 156 rfl rfl rfl rfl rfl rfl rfl [(157, _), (158, _)] (fun h => And.intro (.inr ⟨_, rfl, h⟩) (And.intro (.inr ⟨_, rfl, h⟩) (trivial))) (fun h => (OpJ.callF (f := .func (.func 23) [] [.ip [batV l] 0, .ip [.int .i64 ((i : Nat) : Int)] 0]) (args := [.int .i64 (((recN l bad good : Nat) : Int))]) (r := .int .i64 (tuI l.length i (((recN l bad good : Nat) : Int)))) (⟨23, [.int .i64 (((recN l bad good : Nat) : Int)), .ip [batV l] 0, .ip [.int .i64 ((i : Nat) : Int)] 0], rfl, rf23, turned_ok l i (((recN l bad good : Nat) : Int)) h24 hi⟩) rfl rfl rfl)) ?_
        refine AList.g 160 156 rfl rfl rfl rfl rfl rfl rfl [(20, _)] (fun h => And.intro (.inl rfl) (trivial)) (fun h => (OpJ.move rfl rfl)) ?_
        refine AList.g 161 156 rfl rfl rfl rfl rfl rfl rfl [(159, _), (160, _)] (fun h => And.intro (.inr ⟨_, rfl, h⟩) (And.intro (.inr ⟨_, rfl, h⟩) (trivial))) (fun h => (OpJ.eql rfl rfl rfl)) ?_
        refine AList.c 162 rfl rfl rfl (OpJ.and_ rfl rfl rfl ?_) ?_
        · first | (intro h; rw [h]; rfl) | (intro h; simp_all)
        refine AList.c 163 rfl rfl rfl (OpJ.move rfl rfl) ?_
        refine AList.g 164 163 rfl rfl rfl rfl rfl rfl rfl [(18, _)] (fun h => And.intro (.inl rfl) (trivial)) (fun h => (OpJ.load rfl rfl ty32 rfl)) ?_
        refine AList.g 165 163 rfl rfl rfl rfl rfl rfl rfl [(21, _)] (fun h => And.intro (.inl rfl) (trivial)) (fun h => (OpJ.load rfl rfl ty32 rfl)) ?_
        refine AList.g 166 163 rfl rfl rfl rfl rfl rfl rfl [(164, _), (165, _)] (fun h => And.intro (.inr ⟨_, rfl, h⟩) (And.intro (.inr ⟨_, rfl, h⟩) (trivial))) (fun h => (OpJ.eqAgg (d := 8) rfl (.inl rfl) rfl rfl (by decide) eq32 ty32 rfl eg32 rfl)) ?_
        refine AList.c 167 rfl rfl rfl (OpJ.and_ rfl rfl rfl ?_) ?_
        · first | (intro h; rw [h]; rfl) | (intro h; simp_all)
        refine AList.c 168 rfl rfl rfl (OpJ.move rfl rfl) ?_
        refine AList.g 169 168 rfl rfl rfl rfl rfl rfl rfl [(19, _)] (fun h => And.intro (.inl rfl) (trivial)) (fun h => (OpJ.move rfl rfl)) ?_
        refine AList.g 170 168 rfl rfl rfl rfl rfl rfl rfl [(22, _)] (fun h => And.intro (.inl rfl) (trivial)) (fun h => (OpJ.move rfl rfl)) ?_
        refine AList.g 171 168 rfl rfl rfl rfl rfl rfl rfl [(169, _), (170, _)] (fun h => And.intro (.inr ⟨_, rfl, h⟩) (And.intro (.inr ⟨_, rfl, h⟩) (trivial))) (fun h => (OpJ.eql rfl rfl rfl)) ?_
        refine AList.c 172 rfl rfl rfl (OpJ.and_ rfl rfl rfl ?_) ?_
        · first | (intro h; rw [h]; rfl) | (intro h; simp_all)
        refine AList.c 173 rfl rfl rfl (OpJ.move rfl rfl) ?_
        refine AList.g 174 173 rfl rfl rfl rfl rfl rfl rfl [(10, _)] (fun h => And.intro (.inl rfl) (trivial)) (fun h => (OpJ.move rfl rfl)) ?_
        refine AList.g 175 173 rfl rfl rfl rfl rfl rfl rfl [(23, _)] (fun h => And.intro (.inl rfl) (trivial)) (fun h => (OpJ.move rfl rfl)) ?_
        refine AList.g 176 173 rfl rfl rfl rfl rfl rfl rfl [(174, _), (175, _)] (fun h => And.intro (.inr ⟨_, rfl, h⟩) (And.intro (.inr ⟨_, rfl, h⟩) (trivial))) (fun h => (OpJ.callF (f := .func (.func 23) [] [.ip [batV l] 0, .ip [.int .i64 ((i : Nat) : Int)] 0]) (args := [.int .i64 (((backN l i : Nat) : Int))]) (r := .int .i64 (tuI l.length i (((backN l i : Nat) : Int)))) (⟨23, [.int .i64 (((backN l i : Nat) : Int)), .ip [batV l] 0, .ip [.int .i64 ((i : Nat) : Int)] 0], rfl, rf23, turned_ok l i (((backN l i : Nat) : Int)) h24 hi⟩) rfl rfl rfl)) ?_
        refine AList.g 177 173 rfl rfl rfl rfl rfl rfl rfl [(25, _)] (fun h => And.intro (.inl rfl) (trivial)) (fun h => (OpJ.move rfl rfl)) ?_
        refine AList.g 178 173 rfl rfl rfl rfl rfl rfl rfl [(176, _), (177, _)] (fun h => And.intro (.inr ⟨_, rfl, h⟩) (And.intro (.inr ⟨_, rfl, h⟩) (trivial))) (fun h => (OpJ.eql rfl rfl rfl)) ?_
        refine AList.c 179 rfl rfl rfl (OpJ.and_ rfl rfl rfl ?_) ?_
        · first | (intro h; rw [h]; rfl) | (intro h; simp_all)
        refine AList.c 180 rfl rfl rfl (OpJ.move rfl rfl) ?_
        refine AList.g 181 180 rfl rfl rfl rfl rfl rfl rfl [(24, _)] (fun h => And.intro (.inl rfl) (trivial)) (fun h => (OpJ.move rfl rfl)) ?_
        refine AList.g 182 180 rfl rfl rfl rfl rfl rfl rfl [(26, _)] (fun h => And.intro (.inl rfl) (trivial)) (fun h => (OpJ.move rfl rfl)) ?_
        refine AList.g 183 180 rfl rfl rfl rfl rfl rfl rfl [(181, _), (182, _)] (fun h => And.intro (.inr ⟨_, rfl, h⟩) (And.intro (.inr ⟨_, rfl, h⟩) (trivial))) (fun h => (OpJ.eql rfl rfl rfl)) ?_
        refine AList.c 184 rfl rfl rfl (OpJ.and_ rfl rfl rfl ?_) ?_
        · first | (intro h; rw [h]; rfl) | (intro h; simp_all)
        refine AList.c 185 rfl rfl rfl (OpJ.move rfl rfl) ?_
        refine AList.g 186 185 rfl rfl rfl rfl rfl rfl rfl [] (fun h => trivial) (fun h => (OpJ.callP (awake_ok) rfl rfl rfl rfl rf10)) ?_
        refine AList.c 187 rfl rfl rfl (OpJ.and_ rfl rfl rfl ?_) ?_
        · first | (intro h; rw [h]; rfl) | (intro h; simp_all)
        refine AList.c 8 rfl rfl rfl (OpJ.assign rfl rfl) ?_
        refine AList.nil ?_
        refine AWp.ret ?_
        obtain ⟨q1, q2⟩ := tc_blR hC hi hbi bad good
        obtain ⟨q3, q4, q5⟩ := tc_rec hC hi hbi h24 bad good
        have q6 : backN l i < 2 ^ l.length := (way_back hC).rlt i (by omega)
        refine Fin.oneE rfl rfl ?_
        rw [tuI_nat i q2, tuI_nat i q4, tuI_nat i q6, q1, q3, q5, tc_blE hC hi hbi, tc_bk hC hi hbi]
        simp
theorem recallTurned_law {x0 x1 x2 x3 : List PV} (h0 : TyL [.sl [.leaf (.int .i64), .leaf (.int .i64)]] x0) (h1 : TyL [.leaf (.int .i64)] x1) (h2 : TyL [.leaf (.int .i64)] x2) (h3 : TyL [.leaf (.int .u8)] x3) : Pure Tryd.prog 9 [argP false x0, argP false x1, argP false x2, argP false x3] (.bool true) := by
  obtain ⟨l, rfl, hl⟩ := bats_of h0
  obtain ⟨b, rfl⟩ := int_of h1
  obtain ⟨g, rfl⟩ := int_of h2
  obtain ⟨m, rfl, hm⟩ := u8_of h3
  exact recallTurned_main l b g m hl hm
end Go.Proofs.YtlalikkkobpfgaaDoor
