/-
  The law ShadeBest.
-/
import Derived.Test.YthiapodcippnoaaSdFactsH
import Derived.Test.YthiapodcippnoaaSd15
import Derived.Test.YthiapodcippnoaaSd14
set_option linter.unusedVariables false
set_option maxRecDepth 100000
set_option maxHeartbeats 4000000
set_option linter.unusedSimpArgs false
namespace Go.Proofs.Ythiapodcippnoaa
open Go.AF
theorem u81_of {el : List PV} (h : TyL [.leaf (.int .u8)] el) : ∃ n : { n : Nat // n ≤ 255 }, el = u1 n.1 := by
  obtain ⟨n, e, h1⟩ := u8_of h
  exact ⟨⟨n, h1⟩, e⟩
theorem u8l_of {x : List PV} (h : TyL [.sl [.leaf (.int .u8)]] x) : ∃ l : List Nat, x = [.is (l.flatMap u1) l.length] ∧ l.length ≤ bigN ∧ ∀ y ∈ l, y ≤ 255 := by
  obtain ⟨l, e1, e2⟩ := sl_of (f := fun y : { n : Nat // n ≤ 255 } => u1 y.1) (fun el => u81_of) h
  refine ⟨l.map (·.1), ?_, by rw [List.length_map]; exact e2, fun y hy => ?_⟩
  · rw [e1, List.flatMap_map, List.length_map]
  · obtain ⟨z, _, rfl⟩ := List.mem_map.1 hy
    exact z.2
theorem shadeBest_main (c : List Tnt) (ls : List Lds) (s : Scl) (ys : List Nat) (hcb : c.length ≤ bigN) (hb : ls.length ≤ bigN) (hs : ∀ x ∈ ls, x.st.length ≤ bigN) (hyn : ys.length ≤ bigN) (hys : ∀ y ∈ ys, y ≤ 255) : Pure Try.prog 8 [curV c, ldsV ls, .agg s.cells, .is (ys.flatMap u1) ys.length] (.bool true) := by
  have hyB := fun i => byt_B hys i
  refine Pure.start (N := 271) Try.func8 rfl rfl (Nat.le_of_ble_eq_true rfl) ?_
  refine AWp.seq ?_
  refine AWp.region ?_
  refine AList.c 6 rfl rfl rfl (OpJ.boxImm rfl rfl rfl) ?_
  refine AList.c 8 rfl rfl rfl (OpJ.assign rfl rfl) ?_
  refine AList.nil ?_
  refine AWp.seq ?_
  refine AWp.seq ?_
  refine AWp.region ?_
  refine AList.c 30 rfl rfl rfl (OpJ.move rfl rfl) ?_
  refine AList.c 31 rfl rfl rfl (OpJ.move rfl rfl) ?_
  refine AList.c 32 rfl rfl rfl (OpJ.callP (great_ok c ls hcb hb hs) rfl rfl rfl rfl rf13) ?_
  refine AList.c 33 rfl rfl rfl (OpJ.move rfl rfl) ?_
  refine AList.g 34 33 rfl rfl rfl rfl rfl rfl rfl [(3, _)] (fun h => And.intro (.inl rfl) (trivial)) (fun h => (OpJ.move rfl rfl)) ?_
  refine AList.g 35 33 rfl rfl rfl rfl rfl rfl rfl [(34, _)] (fun h => And.intro (.inr ⟨_, rfl, h⟩) (trivial)) (fun h => (OpJ.lenSlice rfl rfl sl71 rfl)) ?_
  refine AList.g 36 33 rfl rfl rfl rfl rfl rfl rfl [(35, _)] (fun h => And.intro (.inr ⟨_, rfl, h⟩) (trivial)) (fun h => (OpJ.eql rfl rfl rfl)) ?_
  refine AList.c 37 rfl rfl rfl (OpJ.or_ rfl rfl rfl ?_) ?_
  · first | (intro h; rw [h]; rfl) | (intro h; simp_all)
  refine AList.nil ?_
  refine AWp.cond _ rfl (fun hc0 => ?_) (fun hc0 => ?_)
  · skip
    refine AWp.seq ?_
    refine AWp.region ?_
    refine AList.c 38 rfl rfl rfl (OpJ.callP (alive_ok) rfl rfl rfl rfl rf14) ?_
    refine AList.c 8 rfl rfl rfl (OpJ.assign rfl rfl) ?_
    refine AList.nil ?_
    refine AWp.ret ?_
    exact Fin.oneE rfl rfl rfl
  · skip
    have hy0 : 0 < ys.length := by rcases Nat.eq_zero_or_pos ys.length with h | h; { rw [h] at hc0; simp at hc0 }; { exact h }
    refine AWp.skip ?_
    refine AWp.seq ?_
    refine AWp.region ?_
    refine AList.c 40 rfl rfl rfl (OpJ.move rfl rfl) ?_
    refine AList.c 41 rfl rfl rfl (OpJ.move rfl rfl) ?_
    refine AList.c 42 rfl rfl rfl (OpJ.load (v := .p (.agg s.cells)) rfl rfl ty41 rfl) ?_
    refine AList.c 43 rfl rfl rfl (OpJ.callP (cut_R c ls s hcb hb hs) rfl rfl rfl rfl rf22) ?_
    refine AList.c 39 rfl rfl rfl (OpJ.move rfl rfl) ?_
    refine AList.c 44 rfl rfl rfl (OpJ.extract rfl rfl rfl) ?_
    refine AList.c 45 rfl rfl rfl (OpJ.extract rfl rfl rfl) ?_
    refine AList.c 46 rfl rfl rfl (OpJ.extract rfl rfl rfl) ?_
    refine AList.c 9 rfl rfl rfl (OpJ.assign rfl rfl) ?_
    refine AList.c 10 rfl rfl rfl (OpJ.assign rfl rfl) ?_
    refine AList.c 11 rfl rfl rfl (OpJ.assign rfl rfl) ?_
    refine AList.nil ?_
    refine AWp.seq ?_
    refine AWp.seq ?_
    refine AWp.region ?_
    refine AList.c 47 rfl rfl rfl (OpJ.move rfl rfl) ?_
    refine AList.c 48 rfl rfl rfl (OpJ.neq rfl rfl rfl) ?_
    refine AList.nil ?_
    refine AWp.cond _ rfl (fun hc1 => ?_) (fun hc1 => ?_)
    · skip
      obtain ⟨e, he0, heR, he4⟩ : ∃ e : Int, e ≠ 0 ∧ cutR c ls s = ([], 0, e) ∧ (e = 4 → Opn c ls 10 (sclB s) ∧ (cutB (ls.map (toB c)) s).2.2 = false) := by
        rcases cut_cases c ls s with h | h
        · exact h
        · rw [h.e] at hc1; simp at hc1
      rw [heR]
      have hE5 : e = 4 → 200 < s.n * s.least ∧ s.n * s.least ≤ 100000 := fun h4 => by
        have h5 := he4 h4
        have h6 := cut_none h5.1 h5.2
        have hz := (sclB_iff s).1 h5.1.ov
        have z1 := hz.n
        have z2 := hz.least
        have z3 := hz.most
        have := mulB (a := s.n) (b := s.least) (A := 8) (B := 200) (by omega) (by omega) (by omega) (by omega)
        omega
      refine AWp.seq ?_
      refine AWp.region ?_
      refine AList.c 49 rfl rfl rfl (OpJ.move rfl rfl) ?_
      refine AList.c 50 rfl rfl rfl (OpJ.lenSlice rfl rfl sl34 rfl) ?_
      refine AList.c 51 rfl rfl rfl (OpJ.eql rfl rfl rfl) ?_
      refine AList.c 52 rfl rfl rfl (OpJ.move rfl rfl) ?_
      refine AList.g 53 52 rfl rfl rfl rfl rfl rfl rfl [(10, _)] (fun h => And.intro (.inl rfl) (trivial)) (fun h => (OpJ.move rfl rfl)) ?_
      refine AList.g 54 52 rfl rfl rfl rfl rfl rfl rfl [(53, _)] (fun h => And.intro (.inr ⟨_, rfl, h⟩) (trivial)) (fun h => (OpJ.eql rfl rfl rfl)) ?_
      refine AList.c 55 rfl rfl rfl (OpJ.and_ rfl rfl rfl ?_) ?_
      · first | (intro h; rw [h]; rfl) | (intro h; simp_all)
      refine AList.c 56 rfl rfl rfl (OpJ.move rfl rfl) ?_
      refine AList.g 57 56 rfl rfl rfl rfl rfl rfl rfl [(11, _)] (fun h => And.intro (.inl rfl) (trivial)) (fun h => (OpJ.move rfl rfl)) ?_
      refine AList.g 58 56 rfl rfl rfl rfl rfl rfl rfl [(57, _)] (fun h => And.intro (.inr ⟨_, rfl, h⟩) (trivial)) (fun h => (OpJ.neq rfl rfl rfl)) ?_
      refine AList.g 59 56 rfl rfl rfl rfl rfl rfl rfl [(58, _)] (fun h => And.intro (.inr ⟨_, rfl, h⟩) (trivial)) (fun h => (OpJ.move rfl rfl)) ?_
      refine AList.g 60 59 rfl rfl rfl rfl rfl rfl rfl [(6, _)] (fun h => And.intro (.inl rfl) (trivial)) (fun h => (OpJ.fieldAddr rfl rfl fd41_0 rfl)) ?_
      refine AList.g 61 59 rfl rfl rfl rfl rfl rfl rfl [(60, _)] (fun h => And.intro (.inr ⟨_, rfl, h⟩) (trivial)) (fun h => (OpJ.load rfl rfl ty3 rfl)) ?_
      refine AList.g 62 59 rfl rfl rfl rfl rfl rfl rfl [(6, _)] (fun h => And.intro (.inl rfl) (trivial)) (fun h => (OpJ.fieldAddr rfl rfl fd41_1 rfl)) ?_
      refine AList.g 63 59 rfl rfl rfl rfl rfl rfl rfl [(62, _)] (fun h => And.intro (.inr ⟨_, rfl, h⟩) (trivial)) (fun h => (OpJ.load rfl rfl ty3 rfl)) ?_
      refine AList.g 64 59 rfl rfl rfl rfl rfl rfl rfl [(61, _), (63, _)] (fun h => And.intro (.inr ⟨_, rfl, h⟩) (And.intro (.inr ⟨_, rfl, h⟩) (trivial))) (fun h => (OpJ.mul rfl rfl rfl (i64ok (by have := hE5 (by simpa using h); omega)))) ?_
      refine AList.g 65 59 rfl rfl rfl rfl rfl rfl rfl [(64, _)] (fun h => And.intro (.inr ⟨_, rfl, h⟩) (trivial)) (fun h => (OpJ.gtr rfl rfl rfl)) ?_
      refine AList.g 66 56 rfl rfl rfl rfl rfl rfl rfl [(59, _), (65, _)] (fun h => And.intro (.inr ⟨_, rfl, h⟩) (And.intro (.inl rfl) (trivial))) (fun h => (OpJ.or_ rfl rfl rfl ?_)) ?_
      · first | (intro h; rw [h]; rfl) | (intro h; simp_all)
      refine AList.c 67 rfl rfl rfl (OpJ.and_ rfl rfl rfl ?_) ?_
      · first | (intro h; rw [h]; rfl) | (intro h; simp_all)
      refine AList.c 68 rfl rfl rfl (OpJ.move rfl rfl) ?_
      refine AList.g 69 68 rfl rfl rfl rfl rfl rfl rfl [] (fun h => trivial) (fun h => (OpJ.callP (alive_ok) rfl rfl rfl rfl rf14)) ?_
      refine AList.c 70 rfl rfl rfl (OpJ.and_ rfl rfl rfl ?_) ?_
      · first | (intro h; rw [h]; rfl) | (intro h; simp_all)
      refine AList.c 8 rfl rfl rfl (OpJ.assign rfl rfl) ?_
      refine AList.nil ?_
      refine AWp.ret ?_
      refine Fin.oneE rfl rfl ?_
      by_cases h4 : e = 4
      · have := (hE5 h4).1
        simp [h4]
        omega
      · simp [h4]
    · skip
      have hK : CutOk c ls s := by
        rcases cut_cases c ls s with ⟨e, h1, h2, _⟩ | h
        · rw [h2] at hc1; simp [h1] at hc1
        · exact h
      obtain ⟨Q, hQ⟩ : ∃ Q : Nat → Int, Q = (frN (ls.map (toB c)) s (cutB (ls.map (toB c)) s).2.1) := ⟨_, rfl⟩
      obtain ⟨L, hL⟩ : ∃ L : List Int, L = (cutL (ls.map (toB c)) s (cutB (ls.map (toB c)) s).2.1 s.n.toNat) := ⟨_, rfl⟩
      obtain ⟨M, hM⟩ : ∃ M : Int, M = (cutB (ls.map (toB c)) s).1 := ⟨_, rfl⟩
      have hC : Cuts s Q := hQ ▸ own_cuts hK
      have hS : sumQ (ls.map (toB c)) s.gap Q s.n.toNat = M := by rw [hQ, hM]; exact own_sum hK
      have hLn : L.length = s.n.toNat + 1 := by rw [hL, cutL_len]
      have hLg : ∀ k (h : k < L.length), L[k] = Q k := by subst hL hQ; exact cutL_get _ _ _ _
      have hOL : ∀ q, Cuts s q → sumQ (ls.map (toB c)) s.gap q s.n.toNat = M → ∀ i, i ≤ s.n.toNat → (∀ j, j < i → Q j = q j) → Q i ≤ q i := by subst hQ hM; exact fun q h1 h2 i h3 h4 => other_later hK h1 h2 h3 h4
      obtain ⟨O, hO⟩ : ∃ O : Nat → Int, O = fun i => fxO Q s.gap (bc (ls.map (toB c)) i) s.n.toNat := ⟨_, rfl⟩
      obtain ⟨A, hA⟩ : ∃ A : List Int, A = fitO Q s.gap s.n.toNat (ls.map (toB c)) := ⟨_, rfl⟩
      have hAg : ∀ k (h : k < A.length), A[k] = O k := by subst hA hO; exact fitO_get _ _ _ _
      have hAn : A.length = ls.length := by rw [hA]; unfold fitO; rw [List.length_map, List.length_map]
      have hSel : ordR c ((selL ls O ls.length).map (·.1)) ((selL ls O ls.length).map (·.2)) s.gap = (0, 0, 4) := by subst hO; exact sel_ordered hK hC
      have hzg := hK.z.gap
      have hzl := hK.z.least
      have hzm := hK.z.most
      have hzn := hK.z.n
      have hon := hK.o.on
      have hlen : ls.length ≤ 10 := by omega
      have eB := blksB_open hK.o
      have hscl := (sclB_iff s).2 hK.z
      have hN1 : L.length - 1 = s.n.toNat := by omega
      have hC0 := hC.in_ hK.z (k := 0) (by omega)
      have hCn := hC.in_ hK.z (k := s.n.toNat) (Nat.le_refl _)
      obtain ⟨D, hD⟩ : ∃ D : Nat, s.most - s.least + 1 = (D : Int) := ⟨(s.most - s.least + 1).toNat, by omega⟩
      have hD0 : 0 < D := by omega
      have hsl := fun g => selL_len ls O g
      have hsl2 := hsl ls.length
      have hS1 : ((selL ls O ls.length).map (·.1)).length ≤ bigN := by unfold bigN; rw [List.length_map]; omega
      have hS3 : ((selL ls O ls.length).map (·.2)).length ≤ bigN := by unfold bigN; rw [List.length_map]; omega
      have hS2 : ∀ x ∈ ((selL ls O ls.length).map (·.1)), x.st.length ≤ bigN := fun x hx => by
        obtain ⟨y, hy, rfl⟩ := List.mem_map.1 hx
        obtain ⟨i, h1, rfl, _⟩ := selL_mem hy
        exact hs _ (ld_mem h1)
      rw [show cutR c ls s = (L, M, 0) by rw [hK.e, ← hL, ← hM]]
      refine AWp.skip ?_
      refine AWp.seq ?_
      refine AWp.region ?_
      refine AList.c 72 rfl rfl rfl (OpJ.move rfl rfl) ?_
      refine AList.c 73 rfl rfl rfl (OpJ.move rfl rfl) ?_
      refine AList.c 74 rfl rfl rfl (OpJ.callP (blacks_ok c ls hcb hb hs (by omega)) rfl rfl rfl rfl rf34) ?_
      refine AList.c 71 rfl rfl rfl (OpJ.move rfl rfl) ?_
      refine AList.c 75 rfl rfl rfl (OpJ.extract rfl rfl rfl) ?_
      refine AList.c 76 rfl rfl rfl (OpJ.extract rfl rfl rfl) ?_
      refine AList.c 12 rfl rfl rfl (OpJ.assign rfl rfl) ?_
      refine AList.c 13 rfl rfl rfl (OpJ.assign rfl rfl) ?_
      refine AList.nil ?_
      refine AWp.seq ?_
      refine AWp.seq ?_
      rw [eB, if_pos rfl]
      refine AWp.region ?_
      refine AList.c 77 rfl rfl rfl (OpJ.move rfl rfl) ?_
      refine AList.c 78 rfl rfl rfl (OpJ.not_ rfl rfl) ?_
      refine AList.c 79 rfl rfl rfl (OpJ.move rfl rfl) ?_
      refine AList.g 80 79 rfl rfl rfl rfl rfl rfl rfl [(6, _)] (fun h => And.intro (.inl rfl) (trivial)) (fun h => (OpJ.load (v := .p (.agg s.cells)) rfl rfl ty41 rfl)) ?_
      refine AList.g 81 79 rfl rfl rfl rfl rfl rfl rfl [(80, _)] (fun h => And.intro (.inr ⟨_, rfl, h⟩) (trivial)) (fun h => (OpJ.callP (rscale_ok s) rfl rfl rfl rfl rf35)) ?_
      refine AList.g 82 79 rfl rfl rfl rfl rfl rfl rfl [(81, _)] (fun h => And.intro (.inr ⟨_, rfl, h⟩) (trivial)) (fun h => (OpJ.not_ rfl rfl)) ?_
      refine AList.c 83 rfl rfl rfl (OpJ.or_ rfl rfl rfl ?_) ?_
      · first | (intro h; rw [h]; rfl) | (intro h; simp_all)
      refine AList.c 84 rfl rfl rfl (OpJ.move rfl rfl) ?_
      refine AList.g 85 84 rfl rfl rfl rfl rfl rfl rfl [(9, _)] (fun h => And.intro (.inl rfl) (trivial)) (fun h => (OpJ.move rfl rfl)) ?_
      refine AList.g 86 84 rfl rfl rfl rfl rfl rfl rfl [(85, _)] (fun h => And.intro (.inr ⟨_, rfl, h⟩) (trivial)) (fun h => (OpJ.lenSlice rfl rfl sl34 rfl)) ?_
      refine AList.g 87 84 rfl rfl rfl rfl rfl rfl rfl [(6, _)] (fun h => And.intro (.inl rfl) (trivial)) (fun h => (OpJ.fieldAddr rfl rfl fd41_0 rfl)) ?_
      refine AList.g 88 84 rfl rfl rfl rfl rfl rfl rfl [(87, _)] (fun h => And.intro (.inr ⟨_, rfl, h⟩) (trivial)) (fun h => (OpJ.load rfl rfl ty3 rfl)) ?_
      refine AList.g 89 84 rfl rfl rfl rfl rfl rfl rfl [(88, _)] (fun h => And.intro (.inr ⟨_, rfl, h⟩) (trivial)) (fun h => (OpJ.add rfl rfl rfl (i64ok (by omega)))) ?_
      refine AList.g 90 84 rfl rfl rfl rfl rfl rfl rfl [(86, _), (89, _)] (fun h => And.intro (.inr ⟨_, rfl, h⟩) (And.intro (.inr ⟨_, rfl, h⟩) (trivial))) (fun h => (OpJ.neq rfl rfl rfl)) ?_
      refine AList.c 91 rfl rfl rfl (OpJ.or_ rfl rfl rfl ?_) ?_
      · first | (intro h; rw [h]; rfl) | (intro h; simp_all)
      refine AList.c 92 rfl rfl rfl (OpJ.move rfl rfl) ?_
      refine AList.g 93 92 rfl rfl rfl rfl rfl rfl rfl [(9, _)] (fun h => And.intro (.inl rfl) (trivial)) (fun h => (OpJ.move rfl rfl)) ?_
      refine AList.g 94 92 rfl rfl rfl rfl rfl rfl rfl [(93, _)] (fun h => And.intro (.inr ⟨_, rfl, h⟩) (trivial)) (fun h => (OpJ.indexG (g := Q) (k := 0) hLg rfl rfl rfl sl34 el34 rfl (fun _ => rfl) (by decide) (by omega))) ?_
      refine AList.g 95 92 rfl rfl rfl rfl rfl rfl rfl [(94, _)] (fun h => And.intro (.inr ⟨_, rfl, h⟩) (trivial)) (fun h => (OpJ.load rfl rfl ty3 rfl)) ?_
      refine AList.g 96 92 rfl rfl rfl rfl rfl rfl rfl [(95, _)] (fun h => And.intro (.inr ⟨_, rfl, h⟩) (trivial)) (fun h => (OpJ.lss rfl rfl rfl)) ?_
      refine AList.c 97 rfl rfl rfl (OpJ.or_ rfl rfl rfl ?_) ?_
      · first | (intro h; rw [h]; rfl) | (intro h; simp_all)
      refine AList.c 98 rfl rfl rfl (OpJ.move rfl rfl) ?_
      refine AList.g 99 98 rfl rfl rfl rfl rfl rfl rfl [(9, _)] (fun h => And.intro (.inl rfl) (trivial)) (fun h => (OpJ.move rfl rfl)) ?_
      refine AList.g 100 98 rfl rfl rfl rfl rfl rfl rfl [(6, _)] (fun h => And.intro (.inl rfl) (trivial)) (fun h => (OpJ.fieldAddr rfl rfl fd41_0 rfl)) ?_
      refine AList.g 101 98 rfl rfl rfl rfl rfl rfl rfl [(100, _)] (fun h => And.intro (.inr ⟨_, rfl, h⟩) (trivial)) (fun h => (OpJ.load rfl rfl ty3 rfl)) ?_
      refine AList.g 102 98 rfl rfl rfl rfl rfl rfl rfl [(99, _), (101, _)] (fun h => And.intro (.inr ⟨_, rfl, h⟩) (And.intro (.inr ⟨_, rfl, h⟩) (trivial))) (fun h => (OpJ.indexGI (g := Q) hLg rfl rfl rfl sl34 el34 rfl (fun _ => rfl) (by decide) (by omega) (by omega))) ?_
      refine AList.g 103 98 rfl rfl rfl rfl rfl rfl rfl [(102, _)] (fun h => And.intro (.inr ⟨_, rfl, h⟩) (trivial)) (fun h => (OpJ.load rfl rfl ty3 rfl)) ?_
      refine AList.g 104 98 rfl rfl rfl rfl rfl rfl rfl [(103, _)] (fun h => And.intro (.inr ⟨_, rfl, h⟩) (trivial)) (fun h => (OpJ.gtr rfl rfl rfl)) ?_
      refine AList.c 105 rfl rfl rfl (OpJ.or_ rfl rfl rfl ?_) ?_
      · first | (intro h; rw [h]; rfl) | (intro h; simp_all)
      refine AList.nil ?_
      refine AWp.cond _ rfl (fun hc2 => ?_) (fun hc2 => ?_)
      · skip
        exfalso
        rw [hscl] at hc2
        simp [hLn] at hc2
        omega
      · skip
        refine AWp.skip ?_
        refine AWp.seq ?_
        refine AWp.seq ?_
        refine AWp.region ?_
        refine AList.c 106 rfl rfl rfl (OpJ.fieldAddr rfl rfl fd41_0 rfl) ?_
        refine AList.c 107 rfl rfl rfl (OpJ.load rfl rfl ty3 rfl) ?_
        refine AList.c 108 rfl rfl rfl (OpJ.move rfl rfl) ?_
        refine AList.nil ?_
        refine AWp.block ?_
        refine AWp.loopKL [0, 1, 3, 6, 9, 10, 12, 15, 16, 17, 18, 19, 20, 23, 24, 25, 26, 27, 29, 107, 140, 141, 142, 143, 144, 145, 146, 147, 148, 149, 150, 151, 152, 153, 154, 155, 156, 157, 158, 159, 160, 161, 162, 163, 164, 165, 166, 167, 168, 169, 170, 171, 172, 173, 174, 175, 176, 177, 178, 179, 180, 181, 182, 183, 184, 185, 186, 187, 188, 189, 190, 191, 192, 193, 194, 195, 196, 197, 198, 199, 200, 201, 202, 203, 204, 205, 206, 207, 208, 209, 210, 211, 212, 213, 214, 215, 216, 217, 218, 219, 220, 221, 222, 223, 224, 225, 226, 227, 228, 229, 230, 231, 232, 233, 234, 235, 236, 237, 238, 239, 240, 241, 242, 243, 244, 245, 246, 247, 248, 249, 250, 251, 252, 253, 254, 255, 256, 257, 258, 259, 260, 261, 262, 263, 264, 265, 266, 267, 268, 269, 270] (fun g => [(108, .p (.int .i64 ((g : Nat) : Int)))]) (fun g => g ≤ s.n.toNat) (fun g => s.n.toNat - g) 0 (Nat.zero_le _) (Sub.cons rfl (Sub.nil)) (fun i hg => ?_)
        refine AWp.seq ?_
        refine AWp.region ?_
        refine AList.c 109 rfl rfl rfl (OpJ.lss rfl rfl rfl) ?_
        refine AList.nil ?_
        refine AWp.seq ?_
        refine AWp.cond _ rfl (fun hc3 => ?_) (fun hc3 => ?_)
        · skip
          have hk0 : i < s.n.toNat := by have h := of_decide_eq_true hc3; omega
          have hb1 := hC.in_ hK.z (k := i) (by omega)
          have hb2 := hC.in_ hK.z (k := i + 1) (by omega)
          have hst := hC.st i hk0
          refine AWp.skip ?_
          refine AWp.seq ?_
          refine AWp.block ?_
          refine AWp.seq ?_
          refine AWp.region ?_
          refine AList.c 110 rfl rfl rfl (OpJ.move rfl rfl) ?_
          refine AList.c 14 rfl rfl rfl (OpJ.assign rfl rfl) ?_
          refine AList.nil ?_
          refine AWp.seq ?_
          refine AWp.regionDraw 28 mixed (by kernel_rfl) (by decide) ?_
          refine AQuiet.cons 111 rfl rfl rfl (OpJ.move rfl rfl) ?_
          refine AQuiet.cons 112 rfl rfl rfl (OpJ.move rfl rfl) ?_
          refine AQuiet.cons 113 rfl rfl rfl (OpJ.add (m := ((i + 1 : Nat) : Int)) rfl rfl rfl ((i64ok ?_).trans ?_)) ?_
          · omega
          · omega
          refine AQuiet.cons 114 rfl rfl rfl (OpJ.indexG (g := Q) hLg rfl rfl rfl sl34 el34 rfl (fun _ => rfl) (by decide) (by omega)) ?_
          refine AQuiet.cons 115 rfl rfl rfl (OpJ.load rfl rfl ty3 rfl) ?_
          refine AQuiet.cons 116 rfl rfl rfl (OpJ.move rfl rfl) ?_
          refine AQuiet.cons 117 rfl rfl rfl (OpJ.move rfl rfl) ?_
          refine AQuiet.cons 118 rfl rfl rfl (OpJ.indexG (g := Q) hLg rfl rfl rfl sl34 el34 rfl (fun _ => rfl) (by decide) (by omega)) ?_
          refine AQuiet.cons 119 rfl rfl rfl (OpJ.load rfl rfl ty3 rfl) ?_
          refine AQuiet.cons 120 rfl rfl rfl (OpJ.sub_ rfl rfl rfl (i64ok ?_)) ?_
          · omega
          refine AQuiet.cons 121 rfl rfl rfl (OpJ.fieldAddr rfl rfl fd41_1 rfl) ?_
          refine AQuiet.cons 122 rfl rfl rfl (OpJ.load rfl rfl ty3 rfl) ?_
          refine AQuiet.cons 123 rfl rfl rfl (OpJ.lss rfl rfl rfl) ?_
          refine AQuiet.cons 124 rfl rfl rfl (OpJ.move rfl rfl) ?_
          refine AQuiet.guard 125 124 rfl rfl rfl rfl rfl rfl rfl [(9, _)] (fun h => And.intro (.inl rfl) (trivial)) (fun h => (OpJ.move rfl rfl)) ?_
          refine AQuiet.guard 126 124 rfl rfl rfl rfl rfl rfl rfl [(14, _)] (fun h => And.intro (.inl rfl) (trivial)) (fun h => (OpJ.move rfl rfl)) ?_
          refine AQuiet.guard 127 124 rfl rfl rfl rfl rfl rfl rfl [(126, _)] (fun h => And.intro (.inr ⟨_, rfl, h⟩) (trivial)) (fun h => (OpJ.add (m := ((i + 1 : Nat) : Int)) rfl rfl rfl ((i64ok (by omega)).trans (by omega)))) ?_
          refine AQuiet.guard 128 124 rfl rfl rfl rfl rfl rfl rfl [(125, _), (127, _)] (fun h => And.intro (.inr ⟨_, rfl, h⟩) (And.intro (.inr ⟨_, rfl, h⟩) (trivial))) (fun h => (OpJ.indexG (g := Q) hLg rfl rfl rfl sl34 el34 rfl (fun _ => rfl) (by decide) (by omega))) ?_
          refine AQuiet.guard 129 124 rfl rfl rfl rfl rfl rfl rfl [(128, _)] (fun h => And.intro (.inr ⟨_, rfl, h⟩) (trivial)) (fun h => (OpJ.load rfl rfl ty3 rfl)) ?_
          refine AQuiet.guard 130 124 rfl rfl rfl rfl rfl rfl rfl [(9, _)] (fun h => And.intro (.inl rfl) (trivial)) (fun h => (OpJ.move rfl rfl)) ?_
          refine AQuiet.guard 131 124 rfl rfl rfl rfl rfl rfl rfl [(14, _)] (fun h => And.intro (.inl rfl) (trivial)) (fun h => (OpJ.move rfl rfl)) ?_
          refine AQuiet.guard 132 124 rfl rfl rfl rfl rfl rfl rfl [(130, _), (131, _)] (fun h => And.intro (.inr ⟨_, rfl, h⟩) (And.intro (.inr ⟨_, rfl, h⟩) (trivial))) (fun h => (OpJ.indexG (g := Q) hLg rfl rfl rfl sl34 el34 rfl (fun _ => rfl) (by decide) (by omega))) ?_
          refine AQuiet.guard 133 124 rfl rfl rfl rfl rfl rfl rfl [(132, _)] (fun h => And.intro (.inr ⟨_, rfl, h⟩) (trivial)) (fun h => (OpJ.load rfl rfl ty3 rfl)) ?_
          refine AQuiet.guard 134 124 rfl rfl rfl rfl rfl rfl rfl [(129, _), (133, _)] (fun h => And.intro (.inr ⟨_, rfl, h⟩) (And.intro (.inr ⟨_, rfl, h⟩) (trivial))) (fun h => (OpJ.sub_ rfl rfl rfl (i64ok (by omega)))) ?_
          refine AQuiet.guard 135 124 rfl rfl rfl rfl rfl rfl rfl [(6, _)] (fun h => And.intro (.inl rfl) (trivial)) (fun h => (OpJ.fieldAddr rfl rfl fd41_2 rfl)) ?_
          refine AQuiet.guard 136 124 rfl rfl rfl rfl rfl rfl rfl [(135, _)] (fun h => And.intro (.inr ⟨_, rfl, h⟩) (trivial)) (fun h => (OpJ.load rfl rfl ty3 rfl)) ?_
          refine AQuiet.guard 137 124 rfl rfl rfl rfl rfl rfl rfl [(134, _), (136, _)] (fun h => And.intro (.inr ⟨_, rfl, h⟩) (And.intro (.inr ⟨_, rfl, h⟩) (trivial))) (fun h => (OpJ.gtr rfl rfl rfl)) ?_
          refine AQuiet.cons 138 rfl rfl rfl (OpJ.or_ rfl rfl rfl ?_) ?_
          · first | (intro h; rw [h]; rfl) | (intro h; simp_all)
          refine AQuiet.nil ?_
          refine AList.nil ?_
          refine AWp.cond _ rfl (fun hc4 => ?_) (fun hc4 => ?_)
          · skip
            exfalso
            simp at hc4
            omega
          · skip
            refine AWp.skip ?_
            refine AWp.region ?_
            refine AList.c 139 rfl rfl rfl (OpJ.add rfl rfl rfl (i64ok ?_)) ?_
            · omega
            refine AList.c 108 rfl rfl rfl (OpJ.move rfl rfl) ?_
            refine AList.nil ?_
            refine ⟨i + 1, ?_, ?_, ?_⟩
            · omega
            · omega
            exact To.done [] rfl (by repeat (first | exact Sub.nil | refine Sub.cons rfl ?_)) rfl
        · skip
          refine AWp.exit ?_
          refine AWp.seq ?_
          refine AWp.region ?_
          refine AList.c 141 rfl rfl rfl (OpJ.move rfl rfl) ?_
          refine AList.c 142 rfl rfl rfl (OpJ.move rfl rfl) ?_
          refine AList.c 143 rfl rfl rfl (OpJ.move rfl rfl) ?_
          refine AList.c 144 rfl rfl rfl (OpJ.fieldAddr rfl rfl fd41_3 rfl) ?_
          refine AList.c 145 rfl rfl rfl (OpJ.load rfl rfl ty3 rfl) ?_
          refine AList.c 146 rfl rfl rfl (OpJ.callP (fits_ok c ls L Q s.gap hK.b (by omega) (by omega) (by omega) (by omega) hLg) rfl rfl rfl rfl rf36) ?_
          refine AList.c 140 rfl rfl rfl (OpJ.move rfl rfl) ?_
          refine AList.c 147 rfl rfl rfl (OpJ.extract rfl rfl rfl) ?_
          refine AList.c 148 rfl rfl rfl (OpJ.extract rfl rfl rfl) ?_
          refine AList.c 15 rfl rfl rfl (OpJ.assign rfl rfl) ?_
          refine AList.c 16 rfl rfl rfl (OpJ.assign rfl rfl) ?_
          refine AList.nil ?_
          refine AWp.seq ?_
          refine AWp.seq ?_
          rw [hN1, fitN_sum, hS, ← hA]
          refine AWp.region ?_
          refine AList.c 149 rfl rfl rfl (OpJ.move rfl rfl) ?_
          refine AList.c 150 rfl rfl rfl (OpJ.move rfl rfl) ?_
          refine AList.c 151 rfl rfl rfl (OpJ.neq rfl rfl rfl) ?_
          refine AList.nil ?_
          refine AWp.cond _ rfl (fun hc5 => ?_) (fun hc5 => ?_)
          · skip
            exfalso
            simp at hc5
          · skip
            refine AWp.skip ?_
            refine AWp.seq ?_
            refine AWp.region ?_
            refine AList.c 17 rfl rfl rfl (OpJ.assign rfl rfl) ?_
            refine AList.nil ?_
            refine AWp.seq ?_
            refine AWp.region ?_
            refine AList.c 18 rfl rfl rfl (OpJ.assign rfl rfl) ?_
            refine AList.nil ?_
            refine AWp.seq ?_
            refine AWp.seq ?_
            refine AWp.region ?_
            refine AList.c 152 rfl rfl rfl (OpJ.move rfl rfl) ?_
            refine AList.c 153 rfl rfl rfl (OpJ.lenSlice rfl rfl sl34 rfl) ?_
            refine AList.c 154 rfl rfl rfl (OpJ.move rfl rfl) ?_
            refine AList.nil ?_
            refine AWp.block ?_
            refine AWp.loopHL [0, 1, 3, 6, 8, 9, 10, 12, 23, 24, 25, 26, 27, 29, 152, 153, 173, 174, 175, 176, 177, 178, 179, 180, 181, 182, 183, 184, 185, 186, 187, 188, 189, 190, 191, 192, 193, 194, 195, 196, 197, 198, 199, 200, 201, 202, 203, 204, 205, 206, 207, 208, 209, 210, 211, 212, 213, 214, 215, 216, 217, 218, 219, 220, 221, 222, 223, 224, 225, 226, 227, 228, 229, 230, 231, 232, 233, 234, 235, 236, 237, 238, 239, 240, 241, 242, 243, 244, 245, 246, 247, 248, 249, 250, 251, 252, 253, 254, 255, 256, 257, 258, 259, 260, 261, 262, 263, 264, 265, 266, 267, 268, 269, 270] (fun g => [(154, .p (.int .i64 ((g : Nat) : Int))), (17, accV 0 (selL ls O g).length), (18, accV 1 (selL ls O g).length)]) (fun g => [accB ((((selL ls O g).map (·.1)).flatMap Lds.cells).map .p) 28 (selL ls O g).length, accB ((((selL ls O g).map (·.2)).flatMap i1).map .p) 3 (selL ls O g).length]) (fun g => g ≤ ls.length) (fun g => ls.length - g) 0 (Nat.zero_le _) (To.pad.trans (To.pad.trans (To.sub (Sub.chk (Sub.cons rfl (Sub.cons rfl (Sub.cons rfl Sub.nil))))))) (fun i hg => ?_)
            refine AWp.seq ?_
            refine AWp.region ?_
            refine AList.c 155 rfl rfl rfl (OpJ.lss rfl rfl rfl) ?_
            refine AList.nil ?_
            refine AWp.seq ?_
            refine AWp.cond _ rfl (fun hc6 => ?_) (fun hc6 => ?_)
            · skip
              have hk0 : i < ls.length := by have h := of_decide_eq_true hc6; omega
              have hi1 := hsl i
              refine AWp.skip ?_
              refine AWp.seq ?_
              refine AWp.block ?_
              refine AWp.seq ?_
              refine AWp.region ?_
              refine AList.c 156 rfl rfl rfl (OpJ.move rfl rfl) ?_
              refine AList.c 157 rfl rfl rfl (OpJ.indexG (g := O) hAg rfl rfl rfl sl34 el34 rfl (fun _ => rfl) (by decide) (by omega)) ?_
              refine AList.c 158 rfl rfl rfl (OpJ.load rfl rfl ty3 rfl) ?_
              refine AList.c 19 rfl rfl rfl (OpJ.assign rfl rfl) ?_
              refine AList.c 20 rfl rfl rfl (OpJ.assign rfl rfl) ?_
              refine AList.nil ?_
              refine AWp.seq ?_
              refine AWp.region ?_
              refine AList.c 159 rfl rfl rfl (OpJ.move rfl rfl) ?_
              refine AList.c 160 rfl rfl rfl (OpJ.geq rfl rfl rfl) ?_
              refine AList.nil ?_
              refine AWp.cond _ rfl (fun hc7 => ?_) (fun hc7 => ?_)
              · skip
                have eL : selL ls O (i + 1) = selL ls O i ++ [(ld ls i, O i)] := if_pos (of_decide_eq_true hc7)
                have eLn : (selL ls O (i + 1)).length = (selL ls O i).length + 1 := by rw [eL, List.length_append]; rfl
                refine AWp.region ?_
                refine AList.c 161 rfl rfl rfl (OpJ.move rfl rfl) ?_
                refine AList.c 162 rfl rfl rfl (OpJ.move rfl rfl) ?_
                refine AList.c 163 rfl rfl rfl (OpJ.move rfl rfl) ?_
                refine AList.c 164 rfl rfl rfl (OpJ.indexG (g := ld ls) (fun _ h => ld_get h) rfl rfl rfl sl39 el39 rfl (fun _ => rfl) (by decide) hk0) ?_
                refine AList.c 165 rfl rfl rfl (OpJ.load (v := .p (ldV (ld ls i))) rfl rfl ty28 rfl) ?_
                refine AList.c 166 rfl rfl rfl (OpJ.buildImm rfl slz39 (by decide) rfl rfl rfl) ?_
                refine AList.c 167 rfl rfl rfl (OpJ.appendAcc rfl rfl rfl slz39 sl39 rfl ?_ rfl (by decide) rfl by28 (by decide) ?_) ?_
                · rw [List.length_map, lds_len, List.length_map]; rfl
                · show (2 * ((selL ls O i).length + 1) + 192) * 104 ≤ 281474976710656; omega
                refine AList.c 168 rfl rfl rfl (OpJ.move rfl rfl) ?_
                refine AList.c 169 rfl rfl rfl (OpJ.move rfl rfl) ?_
                refine AList.c 170 rfl rfl rfl (OpJ.buildImm rfl slz34 (by decide) rfl rfl rfl) ?_
                refine AList.c 171 rfl rfl rfl (OpJ.appendAcc rfl rfl rfl slz34 sl34 rfl ?_ rfl (by decide) rfl by3 (by decide) ?_) ?_
                · rw [List.length_map, flat_len (c := 1) (fun _ => rfl), List.length_map]; rfl
                · show (2 * ((selL ls O i).length + 1) + 192) * 8 ≤ 281474976710656; omega
                refine AList.c 17 rfl rfl rfl (OpJ.assign rfl rfl) ?_
                refine AList.c 18 rfl rfl rfl (OpJ.assign rfl rfl) ?_
                refine AList.nil ?_
                refine AWp.region ?_
                refine AList.c 172 rfl rfl rfl (OpJ.add rfl rfl rfl (i64ok ?_)) ?_
                · omega
                refine AList.c 154 rfl rfl rfl (OpJ.move rfl rfl) ?_
                refine AList.nil ?_
                refine ⟨i + 1, ?_, ?_, ?_⟩
                · omega
                · omega
                rw [eLn, eL]
                refine To.done [2, 3] rfl (by repeat (first | exact Sub.nil | refine Sub.cons rfl ?_)) ?_
                show [Blk.row (renL _ (_ ++ _)) _, Blk.row (renL _ (_ ++ _)) _] = [Blk.row _ _, Blk.row _ _]
                rw [renL_app, renL_app, renL_pure, renL_pure, renL_pure, renL_pure, List.map_append, List.flatMap_append, List.map_append, List.map_append, List.flatMap_append, List.map_append]
                rfl
              · skip
                have eL : selL ls O (i + 1) = selL ls O i := if_neg (of_decide_eq_false hc7)
                refine AWp.skip ?_
                refine AWp.region ?_
                refine AList.c 172 rfl rfl rfl (OpJ.add rfl rfl rfl (i64ok ?_)) ?_
                · omega
                refine AList.c 154 rfl rfl rfl (OpJ.move rfl rfl) ?_
                refine AList.nil ?_
                refine ⟨i + 1, ?_, ?_, ?_⟩
                · omega
                · omega
                rw [eL]
                refine To.done [0, 1] rfl (Sub.cons rfl (Sub.cons (by show some (renV _ (accV 0 _)) = some _; rw [renV_acc (σ := pl [0, 1]) (j := 0) rfl]) (Sub.cons (by show some (renV _ (accV 1 _)) = some _; rw [renV_acc (σ := pl [0, 1]) (j := 1) rfl]) (by repeat (first | exact Sub.nil | refine Sub.cons rfl ?_))))) (by show [renB _ (accB _ _ _), renB _ (accB _ _ _)] = _; rw [renB_accB, renB_accB])
            · skip
              obtain rfl : ls.length = i := by have h := of_decide_eq_false hc6; omega
              refine AWp.to (To.accD 17 0 (selL ls O ls.length).length rfl rfl (fun h => by rw [List.length_eq_zero_iff.1 h]; rfl)) ?_
              refine AWp.to (To.accD 18 1 (selL ls O ls.length).length rfl rfl (fun h => by rw [List.length_eq_zero_iff.1 h]; rfl)) ?_
              have eS1 : (V.p (.is (((selL ls O ls.length).map (·.1)).flatMap Lds.cells) (selL ls O ls.length).length)) = (V.p (ldsV ((selL ls O ls.length).map (·.1)))) := by unfold ldsV; rw [List.length_map]
              have eS2 : (V.p (.is (((selL ls O ls.length).map (·.2)).flatMap i1) (selL ls O ls.length).length)) = (V.p (intsV ((selL ls O ls.length).map (·.2)))) := by unfold intsV; rw [List.length_map]
              refine AWp.norm [] [(0, _), (1, _), (3, _), (6, _), (9, _), (10, _), (12, _), (17, _), (18, _)] [] rfl (by repeat (first | exact Sub.nil | refine Sub.cons rfl ?_)) rfl ?_
              rw [eS1, eS2]
              refine AWp.exit ?_
              refine AWp.seq ?_
              refine AWp.seq ?_
              refine AWp.region ?_
              refine AList.c 174 rfl rfl rfl (OpJ.move rfl rfl) ?_
              refine AList.c 175 rfl rfl rfl (OpJ.move rfl rfl) ?_
              refine AList.c 176 rfl rfl rfl (OpJ.move rfl rfl) ?_
              refine AList.c 177 rfl rfl rfl (OpJ.fieldAddr rfl rfl fd41_3 rfl) ?_
              refine AList.c 178 rfl rfl rfl (OpJ.load rfl rfl ty3 rfl) ?_
              refine AList.c 179 rfl rfl rfl (OpJ.callP (ordered_R c ((selL ls O ls.length).map (·.1)) ((selL ls O ls.length).map (·.2)) s.gap hcb hS1 hS2 hS3) rfl rfl rfl rfl rf20) ?_
              refine AList.c 173 rfl rfl rfl (OpJ.move rfl rfl) ?_
              refine AList.c 180 rfl rfl rfl (OpJ.extract rfl rfl rfl) ?_
              refine AList.c 181 rfl rfl rfl (OpJ.extract rfl rfl rfl) ?_
              refine AList.c 182 rfl rfl rfl (OpJ.extract rfl rfl rfl) ?_
              refine AList.c 21 rfl rfl rfl (OpJ.assign rfl rfl) ?_
              refine AList.c 22 rfl rfl rfl (OpJ.assign rfl rfl) ?_
              refine AList.c 23 rfl rfl rfl (OpJ.assign rfl rfl) ?_
              refine AList.nil ?_
              refine AWp.seq ?_
              rw [hSel]
              refine AWp.region ?_
              refine AList.c 183 rfl rfl rfl (OpJ.move rfl rfl) ?_
              refine AList.c 184 rfl rfl rfl (OpJ.neq rfl rfl rfl) ?_
              refine AList.nil ?_
              refine AWp.cond _ rfl (fun hc8 => ?_) (fun hc8 => ?_)
              · skip
                exfalso
                simp at hc8
              · skip
                refine AWp.skip ?_
                refine AWp.seq ?_
                refine AWp.region ?_
                refine AList.c 185 rfl rfl rfl (OpJ.move rfl rfl) ?_
                refine AList.c 186 rfl rfl rfl (OpJ.indexG (g := byt ys) (k := 0) (fun k h => byt_get ys k h) rfl rfl rfl sl71 el71 rfl (fun _ => rfl) (by decide) hy0) ?_
                refine AList.c 187 rfl rfl rfl (OpJ.load rfl rfl ty5 rfl) ?_
                refine AList.c 188 rfl rfl rfl (OpJ.convInt rfl rfl (by rw [un5]; rfl) un3 (i64ok ?_)) ?_
                · have := hyB 0; omega
                refine AList.c 189 rfl rfl rfl (OpJ.rem (m := ((byt ys 0 % 201 : Nat) : Int)) rfl rfl rfl ?_ ?_) ?_
                · decide
                · exact tmodN _ _
                refine AList.c 24 rfl rfl rfl (OpJ.assign rfl rfl) ?_
                refine AList.nil ?_
                refine AWp.seq ?_
                refine AWp.region ?_
                refine AList.c 190 rfl rfl rfl (OpJ.move rfl rfl) ?_
                refine AList.c 191 rfl rfl rfl (OpJ.buildOwn rfl slz34 (by decide) rfl rfl) ?_
                refine AList.c 25 rfl rfl rfl (OpJ.assign rfl rfl) ?_
                refine AList.nil ?_
                refine AWp.seq ?_
                refine AWp.seq ?_
                refine AWp.region ?_
                refine AList.c 192 rfl rfl rfl (OpJ.fieldAddr rfl rfl fd41_0 rfl) ?_
                refine AList.c 193 rfl rfl rfl (OpJ.load rfl rfl ty3 rfl) ?_
                refine AList.c 194 rfl rfl rfl (OpJ.move rfl rfl) ?_
                refine AList.nil ?_
                refine AWp.block ?_
                refine AWp.loopHL [1, 3, 6, 8, 9, 10, 12, 27, 29, 193, 222, 223, 224, 225, 226, 227, 228, 229, 230, 231, 232, 233, 234, 235, 236, 237, 238, 239, 240, 241, 242, 243, 244, 245, 246, 247, 248, 249, 250, 251, 252, 253, 254, 255, 256, 257, 258, 259, 260, 261, 262, 263, 264, 265, 266, 267, 268, 269, 270] (fun g => [(194, .p (.int .i64 ((g : Nat) : Int))), (24, .p (.int .i64 (atN s ys D g))), (25, accV 0 (g + 1))]) (fun g => [accB (((atL s ys D g).flatMap i1).map .p) 3 (g + 1)]) (fun g => g ≤ s.n.toNat) (fun g => s.n.toNat - g) 0 (Nat.zero_le _) (To.sub (Sub.chk (Sub.cons rfl (Sub.cons rfl (Sub.cons rfl (Sub.nil)))))) (fun i hg => ?_)
                refine AWp.seq ?_
                refine AWp.region ?_
                refine AList.c 195 rfl rfl rfl (OpJ.lss rfl rfl rfl) ?_
                refine AList.nil ?_
                refine AWp.seq ?_
                refine AWp.cond _ rfl (fun hc9 => ?_) (fun hc9 => ?_)
                · skip
                  have hk0 : i < s.n.toNat := by have h := of_decide_eq_true hc9; omega
                  have hkm := Nat.mod_lt i hy0
                  have hkd := Nat.mod_lt (byt ys (i % ys.length)) hD0
                  have hB0 := hyB (i % ys.length)
                  have hAt := atN_B hK.z ys hD i
                  refine AWp.skip ?_
                  refine AWp.seq ?_
                  refine AWp.block ?_
                  refine AWp.seq ?_
                  refine AWp.region ?_
                  refine AList.c 196 rfl rfl rfl (OpJ.move rfl rfl) ?_
                  refine AList.c 26 rfl rfl rfl (OpJ.assign rfl rfl) ?_
                  refine AList.nil ?_
                  refine AWp.seq ?_
                  refine AWp.regionDraw 21 mixed (by kernel_rfl) (by decide) ?_
                  refine AQuiet.cons 197 rfl rfl rfl (OpJ.move rfl rfl) ?_
                  refine AQuiet.cons 198 rfl rfl rfl (OpJ.fieldAddr rfl rfl fd41_1 rfl) ?_
                  refine AQuiet.cons 199 rfl rfl rfl (OpJ.load rfl rfl ty3 rfl) ?_
                  refine AQuiet.cons 200 rfl rfl rfl (OpJ.move rfl rfl) ?_
                  refine AQuiet.cons 201 rfl rfl rfl (OpJ.move rfl rfl) ?_
                  refine AQuiet.cons 202 rfl rfl rfl (OpJ.move rfl rfl) ?_
                  refine AQuiet.cons 203 rfl rfl rfl (OpJ.lenSlice rfl rfl sl71 rfl) ?_
                  refine AQuiet.cons 204 rfl rfl rfl (OpJ.rem (m := ((i % ys.length : Nat) : Int)) rfl rfl rfl ?_ ?_) ?_
                  · omega
                  · exact tmodN _ _
                  refine AQuiet.cons 205 rfl rfl rfl (OpJ.indexG (g := byt ys) (fun k h => byt_get ys k h) rfl rfl rfl sl71 el71 rfl (fun _ => rfl) (by decide) hkm) ?_
                  refine AQuiet.cons 206 rfl rfl rfl (OpJ.load rfl rfl ty5 rfl) ?_
                  refine AQuiet.cons 207 rfl rfl rfl (OpJ.convInt rfl rfl (by rw [un5]; rfl) un3 (i64ok ?_)) ?_
                  · omega
                  refine AQuiet.cons 208 rfl rfl rfl (OpJ.fieldAddr rfl rfl fd41_2 rfl) ?_
                  refine AQuiet.cons 209 rfl rfl rfl (OpJ.load rfl rfl ty3 rfl) ?_
                  refine AQuiet.cons 210 rfl rfl rfl (OpJ.fieldAddr rfl rfl fd41_1 rfl) ?_
                  refine AQuiet.cons 211 rfl rfl rfl (OpJ.load rfl rfl ty3 rfl) ?_
                  refine AQuiet.cons 212 rfl rfl rfl (OpJ.sub_ rfl rfl rfl (i64ok ?_)) ?_
                  · omega
                  refine AQuiet.cons 213 rfl rfl rfl (OpJ.add (m := ((D : Nat) : Int)) rfl rfl rfl ((i64ok ?_).trans ?_)) ?_
                  · omega
                  · exact hD
                  refine AQuiet.cons 214 rfl rfl rfl (OpJ.rem (m := ((byt ys (i % ys.length) % D : Nat) : Int)) rfl rfl rfl ?_ ?_) ?_
                  · omega
                  · exact tmodN _ _
                  refine AQuiet.cons 215 rfl rfl rfl (OpJ.add rfl rfl rfl (i64ok ?_)) ?_
                  · omega
                  refine AQuiet.cons 216 rfl rfl rfl (OpJ.add rfl rfl rfl (i64ok ?_)) ?_
                  · omega
                  refine AQuiet.cons 24 rfl rfl rfl (OpJ.assign rfl rfl) ?_
                  refine AQuiet.nil ?_
                  refine AList.nil ?_
                  refine AWp.region ?_
                  refine AList.c 217 rfl rfl rfl (OpJ.move rfl rfl) ?_
                  refine AList.c 218 rfl rfl rfl (OpJ.move rfl rfl) ?_
                  refine AList.c 219 rfl rfl rfl (OpJ.buildImm rfl slz34 (by decide) rfl rfl rfl) ?_
                  refine AList.c 220 rfl rfl rfl (OpJ.appendRow rfl rfl rfl slz34 sl34 rfl ?_ rfl rfl by3 (by decide) ?_) ?_
                  · rw [List.length_map, flat_len (c := 1) (fun _ => rfl), atL_len]; rfl
                  · show (2 * (i + 1 + 1) + 192) * 8 ≤ 281474976710656; omega
                  refine AList.c 25 rfl rfl rfl (OpJ.assign rfl rfl) ?_
                  refine AList.nil ?_
                  refine AWp.region ?_
                  refine AList.c 221 rfl rfl rfl (OpJ.add rfl rfl rfl (i64ok ?_)) ?_
                  · omega
                  refine AList.c 194 rfl rfl rfl (OpJ.move rfl rfl) ?_
                  refine AList.nil ?_
                  refine ⟨i + 1, ?_, ?_, ?_⟩
                  · omega
                  · omega
                  refine To.done [1] rfl (by repeat (first | exact Sub.nil | refine Sub.cons rfl ?_)) ?_
                  show [Blk.row (renL _ (_ ++ _)) _] = [Blk.row _ _]
                  rw [renL_app, renL_pure, atL_succ, List.flatMap_append, List.map_append]
                  rfl
                · skip
                  obtain rfl : s.n.toNat = i := by have h := of_decide_eq_false hc9; omega
                  refine AWp.to (To.accD 25 0 (s.n.toNat + 1) rfl rfl (fun h => by cases h)) ?_
                  have eT : (V.p (.is ((atL s ys D s.n.toNat).flatMap i1) (s.n.toNat + 1))) = V.p (intsV (atL s ys D s.n.toNat)) := by unfold intsV; rw [atL_len]
                  rw [eT]
                  refine AWp.exit ?_
                  refine AWp.seq ?_
                  refine AWp.seq ?_
                  refine AWp.region ?_
                  refine AList.c 222 rfl rfl rfl (OpJ.move rfl rfl) ?_
                  refine AList.c 223 rfl rfl rfl (OpJ.gtr rfl rfl rfl) ?_
                  refine AList.nil ?_
                  refine AWp.cond _ rfl (fun hc10 => ?_) (fun hc10 => ?_)
                  · skip
                    refine AWp.seq ?_
                    refine AWp.region ?_
                    refine AList.c 224 rfl rfl rfl (OpJ.callP (alive_ok) rfl rfl rfl rfl rf14) ?_
                    refine AList.c 8 rfl rfl rfl (OpJ.assign rfl rfl) ?_
                    refine AList.nil ?_
                    refine AWp.ret ?_
                    exact Fin.oneE rfl rfl rfl
                  · skip
                    have hq : Cuts s (atN s ys D) := at_cuts hK.z ys hD (by have h := of_decide_eq_false hc10; omega)
                    have hle : sumQ (ls.map (toB c)) s.gap (atN s ys D) s.n.toNat ≤ M := by rw [hM]; exact other_le hK.b hK.z hq hK.i
                    refine AWp.skip ?_
                    refine AWp.seq ?_
                    refine AWp.region ?_
                    refine AList.c 226 rfl rfl rfl (OpJ.move rfl rfl) ?_
                    refine AList.c 227 rfl rfl rfl (OpJ.move rfl rfl) ?_
                    refine AList.c 228 rfl rfl rfl (OpJ.move rfl rfl) ?_
                    refine AList.c 229 rfl rfl rfl (OpJ.fieldAddr rfl rfl fd41_3 rfl) ?_
                    refine AList.c 230 rfl rfl rfl (OpJ.load rfl rfl ty3 rfl) ?_
                    refine AList.c 231 rfl rfl rfl (OpJ.callP (fits_ok c ls (atL s ys D s.n.toNat) (atN s ys D) s.gap hK.b (by omega) (by omega) (by rw [atL_len]; omega) (by rw [atL_len]; omega) (atL_get s ys D s.n.toNat)) rfl rfl rfl rfl rf36) ?_
                    refine AList.c 225 rfl rfl rfl (OpJ.move rfl rfl) ?_
                    refine AList.c 232 rfl rfl rfl (OpJ.extract rfl rfl rfl) ?_
                    refine AList.c 233 rfl rfl rfl (OpJ.extract rfl rfl rfl) ?_
                    refine AList.c 27 rfl rfl rfl (OpJ.assign rfl rfl) ?_
                    refine AList.c 28 rfl rfl rfl (OpJ.assign rfl rfl) ?_
                    refine AList.nil ?_
                    refine AWp.seq ?_
                    refine AWp.seq ?_
                    rw [atL_len, Nat.add_sub_cancel, fitN_sum]
                    refine AWp.region ?_
                    refine AList.c 234 rfl rfl rfl (OpJ.move rfl rfl) ?_
                    refine AList.c 235 rfl rfl rfl (OpJ.move rfl rfl) ?_
                    refine AList.c 236 rfl rfl rfl (OpJ.neq rfl rfl rfl) ?_
                    refine AList.nil ?_
                    refine AWp.cond _ rfl (fun hc11 => ?_) (fun hc11 => ?_)
                    · skip
                      refine AWp.seq ?_
                      refine AWp.region ?_
                      refine AList.c 237 rfl rfl rfl (OpJ.move rfl rfl) ?_
                      refine AList.c 238 rfl rfl rfl (OpJ.move rfl rfl) ?_
                      refine AList.c 239 rfl rfl rfl (OpJ.lss rfl rfl rfl) ?_
                      refine AList.c 240 rfl rfl rfl (OpJ.move rfl rfl) ?_
                      refine AList.g 241 240 rfl rfl rfl rfl rfl rfl rfl [] (fun h => trivial) (fun h => (OpJ.callP (alive_ok) rfl rfl rfl rfl rf14)) ?_
                      refine AList.c 242 rfl rfl rfl (OpJ.and_ rfl rfl rfl ?_) ?_
                      · first | (intro h; rw [h]; rfl) | (intro h; simp_all)
                      refine AList.c 8 rfl rfl rfl (OpJ.assign rfl rfl) ?_
                      refine AList.nil ?_
                      refine AWp.ret ?_
                      refine Fin.oneE rfl rfl ?_
                      simp at hc11
                      simp
                      omega
                    · skip
                      have he : sumQ (ls.map (toB c)) s.gap (atN s ys D) s.n.toNat = M := by simpa using hc11
                      refine AWp.skip ?_
                      refine AWp.seq ?_
                      refine AWp.seq ?_
                      refine AWp.region ?_
                      refine AList.c 243 rfl rfl rfl (OpJ.move rfl rfl) ?_
                      refine AList.c 244 rfl rfl rfl (OpJ.lenSlice rfl rfl sl34 rfl) ?_
                      refine AList.c 245 rfl rfl rfl (OpJ.move rfl rfl) ?_
                      refine AList.nil ?_
                      refine AWp.block ?_
                      refine AWp.loopHL [9, 25, 244, 270] (fun g => [(245, .p (.int .i64 ((g : Nat) : Int)))]) (fun g => [.dead]) (fun g => g ≤ L.length ∧ ∀ j, j < g → Q j = atN s ys D j) (fun g => L.length - g) 0 ⟨Nat.zero_le _, fun j hj => absurd hj (by omega)⟩ (To.sub (Sub.chk (Sub.cons rfl (Sub.nil)))) (fun i hg => ?_)
                      obtain ⟨hg1, hg2⟩ := hg
                      refine AWp.seq ?_
                      refine AWp.region ?_
                      refine AList.c 246 rfl rfl rfl (OpJ.lss rfl rfl rfl) ?_
                      refine AList.nil ?_
                      refine AWp.seq ?_
                      refine AWp.cond _ rfl (fun hc12 => ?_) (fun hc12 => ?_)
                      · skip
                        have hk0 : i < L.length := by have h := of_decide_eq_true hc12; exact Int.ofNat_lt.1 h
                        refine AWp.skip ?_
                        refine AWp.seq ?_
                        refine AWp.block ?_
                        refine AWp.seq ?_
                        refine AWp.region ?_
                        refine AList.c 247 rfl rfl rfl (OpJ.move rfl rfl) ?_
                        refine AList.c 29 rfl rfl rfl (OpJ.assign rfl rfl) ?_
                        refine AList.nil ?_
                        refine AWp.seq ?_
                        refine AWp.regionDraw 9 mixed (by kernel_rfl) (by decide) ?_
                        refine AQuiet.cons 248 rfl rfl rfl (OpJ.move rfl rfl) ?_
                        refine AQuiet.cons 249 rfl rfl rfl (OpJ.move rfl rfl) ?_
                        refine AQuiet.cons 250 rfl rfl rfl (OpJ.indexG (g := Q) hLg rfl rfl rfl sl34 el34 rfl (fun _ => rfl) (by decide) hk0) ?_
                        refine AQuiet.cons 251 rfl rfl rfl (OpJ.load rfl rfl ty3 rfl) ?_
                        refine AQuiet.cons 252 rfl rfl rfl (OpJ.move rfl rfl) ?_
                        refine AQuiet.cons 253 rfl rfl rfl (OpJ.move rfl rfl) ?_
                        refine AQuiet.cons 254 rfl rfl rfl (OpJ.indexG (g := (atN s ys D)) (atL_get s ys D s.n.toNat) rfl rfl rfl sl34 el34 rfl (fun _ => rfl) (by decide) (by rw [atL_len]; omega)) ?_
                        refine AQuiet.cons 255 rfl rfl rfl (OpJ.load rfl rfl ty3 rfl) ?_
                        refine AQuiet.cons 256 rfl rfl rfl (OpJ.neq rfl rfl rfl) ?_
                        refine AQuiet.nil ?_
                        refine AList.nil ?_
                        refine AWp.cond _ rfl (fun hc13 => ?_) (fun hc13 => ?_)
                        · skip
                          have hlt := hOL _ hq he i (by omega) hg2
                          refine AWp.seq ?_
                          refine AWp.regionDraw 13 mixed (by kernel_rfl) (by decide) ?_
                          refine AQuiet.cons 257 rfl rfl rfl (OpJ.move rfl rfl) ?_
                          refine AQuiet.cons 258 rfl rfl rfl (OpJ.move rfl rfl) ?_
                          refine AQuiet.cons 259 rfl rfl rfl (OpJ.indexG (g := Q) hLg rfl rfl rfl sl34 el34 rfl (fun _ => rfl) (by decide) hk0) ?_
                          refine AQuiet.cons 260 rfl rfl rfl (OpJ.load rfl rfl ty3 rfl) ?_
                          refine AQuiet.cons 261 rfl rfl rfl (OpJ.move rfl rfl) ?_
                          refine AQuiet.cons 262 rfl rfl rfl (OpJ.move rfl rfl) ?_
                          refine AQuiet.cons 263 rfl rfl rfl (OpJ.indexG (g := (atN s ys D)) (atL_get s ys D s.n.toNat) rfl rfl rfl sl34 el34 rfl (fun _ => rfl) (by decide) (by rw [atL_len]; omega)) ?_
                          refine AQuiet.cons 264 rfl rfl rfl (OpJ.load rfl rfl ty3 rfl) ?_
                          refine AQuiet.cons 265 rfl rfl rfl (OpJ.lss rfl rfl rfl) ?_
                          refine AQuiet.cons 266 rfl rfl rfl (OpJ.move rfl rfl) ?_
                          refine AQuiet.guard 267 266 rfl rfl rfl rfl rfl rfl rfl [] (fun h => trivial) (fun h => (OpJ.callP (alive_ok) rfl rfl rfl rfl rf14)) ?_
                          refine AQuiet.cons 268 rfl rfl rfl (OpJ.and_ rfl rfl rfl ?_) ?_
                          · first | (intro h; rw [h]; rfl) | (intro h; simp_all)
                          refine AQuiet.cons 8 rfl rfl rfl (OpJ.assign rfl rfl) ?_
                          refine AQuiet.nil ?_
                          refine AList.nil ?_
                          refine AWp.ret ?_
                          refine Fin.oneE rfl rfl ?_
                          simp at hc13
                          simp
                          omega
                        · skip
                          have heq : Q i = atN s ys D i := by simpa using hc13
                          refine AWp.skip ?_
                          refine AWp.region ?_
                          refine AList.c 269 rfl rfl rfl (OpJ.add rfl rfl rfl (i64ok ?_)) ?_
                          · omega
                          refine AList.c 245 rfl rfl rfl (OpJ.move rfl rfl) ?_
                          refine AList.nil ?_
                          refine ⟨i + 1, ?_, ?_, ?_⟩
                          · refine ⟨by omega, fun j hj => ?_⟩
                            rcases Nat.lt_succ_iff_lt_or_eq.1 hj with h1 | rfl
                            · exact hg2 j h1
                            · exact heq
                          · omega
                          exact To.done [0] rfl (by repeat (first | exact Sub.nil | refine Sub.cons rfl ?_)) rfl
                      · skip
                        refine AWp.exit ?_
                        refine AWp.seq ?_
                        refine AWp.region ?_
                        refine AList.c 270 rfl rfl rfl (OpJ.callP (alive_ok) rfl rfl rfl rfl rf14) ?_
                        refine AList.c 8 rfl rfl rfl (OpJ.assign rfl rfl) ?_
                        refine AList.nil ?_
                        refine AWp.ret ?_
                        exact Fin.oneE rfl rfl rfl
theorem shadeBest_law {x0 x1 x2 x3 : List PV} (h0 : TyL [.sl [.leaf (.int .i64), .leaf (.int .i64)]] x0) (h1 : TyL [.sl [.leaf (.int .i64), .leaf (.int .i64), .leaf (.int .i64), .leaf (.int .i64), .leaf (.int .i64), .sl [.leaf (.int .i64), .leaf (.int .i64), .leaf (.int .i64), .leaf (.int .i64)], .leaf (.int .i64), .leaf (.int .i64), .leaf (.int .i64), .leaf (.int .i64), .leaf (.int .i64)]] x1) (h2 : TyL [.leaf (.int .i64), .leaf (.int .i64), .leaf (.int .i64), .leaf (.int .i64)] x2) (h3 : TyL [.sl [.leaf (.int .u8)]] x3) : Pure Try.prog 8 [argP false x0, argP false x1, argP true x2, argP false x3] (.bool true) := by
  obtain ⟨c, rfl, hc⟩ := cur_of h0
  obtain ⟨l, rfl, hl, hs⟩ := lds_of h1
  obtain ⟨s, rfl⟩ := scl_of h2
  obtain ⟨ys, rfl, hy, hys⟩ := u8l_of h3
  exact shadeBest_main c l s ys hc hl hs hy hys
end Go.Proofs.Ythiapodcippnoaa
