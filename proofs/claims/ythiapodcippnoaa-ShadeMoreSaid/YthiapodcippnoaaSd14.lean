/-
  The law ShadeSold.
-/
import Derived.Test.YthiapodcippnoaaSdFactsF
import Derived.Test.YthiapodcippnoaaSd9
import Derived.Test.YthiapodcippnoaaSdL
import Derived.Test.YthiapodcippnoaaSdS
import Derived.Test.YthiapodcippnoaaAfL
set_option linter.unusedVariables false
set_option maxRecDepth 100000
set_option maxHeartbeats 4000000
set_option linter.unusedSimpArgs false
namespace Go.Proofs.Ythiapodcippnoaa
open Go.AF
theorem lds_len (l : List Lds) : (l.flatMap Lds.cells).length = l.length * 11 := flat_len (c := 11) (fun _ => rfl) l
theorem oneLds (l : List Lds) : (((l.flatMap Lds.cells).map V.p).all oneV) = true := by
  rw [List.all_map, List.all_eq_true]
  intro x hx
  obtain ⟨y, _, hy⟩ := List.mem_flatMap.1 hx
  simp only [Lds.cells, List.mem_cons, List.not_mem_nil, or_false, stV] at hy
  rcases hy with rfl | rfl | rfl | rfl | rfl | rfl | rfl | rfl | rfl | rfl | rfl <;> rfl
theorem lds_cat (ls : List Lds) (mo : Lds) : some (V.p (.is (ls.flatMap Lds.cells ++ mo.cells) (0 + ls.length + 1))) = some (V.p (ldsV (ls ++ [mo]))) := by
  unfold ldsV
  rw [List.flatMap_append, List.length_append, Nat.zero_add]
  simp
theorem cutR_len (c : List Tnt) (ls : List Lds) (s : Scl) : (cutR c ls s).1.length ≤ s.n.toNat + 1 := by
  unfold cutR
  split
  · split
    · rw [cutL_len]; exact Nat.le_refl _
    · exact Nat.zero_le _
  · exact Nat.zero_le _
theorem shadeSold_main (c : List Tnt) (ls : List Lds) (s : Scl) (mo : Lds) (y : Nat) (hcb : c.length ≤ bigN) (hb : ls.length ≤ bigN) (hs : ∀ x ∈ ls, x.st.length ≤ bigN) (hmo : mo.st.length ≤ bigN) (hy : y ≤ 255) : Pure Try.prog 11 [curV c, ldsV ls, .agg s.cells, ldV mo, .int .u8 (y : Int)] (.bool true) := by
  refine Pure.start (N := 192) Try.func11 rfl rfl (Nat.le_of_ble_eq_true rfl) ?_
  refine AWp.seq ?_
  refine AWp.region ?_
  refine AList.c 7 rfl rfl rfl (OpJ.boxImm rfl rfl rfl) ?_
  refine AList.c 8 rfl rfl rfl (OpJ.boxImm rfl rfl rfl) ?_
  refine AList.c 10 rfl rfl rfl (OpJ.assign rfl rfl) ?_
  refine AList.nil ?_
  refine AWp.seq ?_
  refine AWp.seq ?_
  refine AWp.region ?_
  refine AList.c 31 rfl rfl rfl (OpJ.move rfl rfl) ?_
  refine AList.c 32 rfl rfl rfl (OpJ.move rfl rfl) ?_
  refine AList.c 33 rfl rfl rfl (OpJ.callP (great_ok c ls hcb hb hs) rfl rfl rfl rfl rf13) ?_
  refine AList.c 34 rfl rfl rfl (OpJ.move rfl rfl) ?_
  refine AList.g 35 34 rfl rfl rfl rfl rfl rfl rfl [(0, _)] (fun h => And.intro (.inl rfl) (trivial)) (fun h => (OpJ.move rfl rfl)) ?_
  refine AList.g 36 34 rfl rfl rfl rfl rfl rfl rfl [(8, _)] (fun h => And.intro (.inl rfl) (trivial)) (fun h => (OpJ.load (v := .p (ldV mo)) rfl rfl ty28 rfl)) ?_
  refine AList.g 37 34 rfl rfl rfl rfl rfl rfl rfl [(36, _)] (fun h => And.intro (.inr ⟨_, rfl, h⟩) (trivial)) (fun h => (OpJ.buildImm rfl slz39 (by decide) rfl rfl rfl)) ?_
  refine AList.g 38 34 rfl rfl rfl rfl rfl rfl rfl [(35, _), (37, _)] (fun h => And.intro (.inr ⟨_, rfl, h⟩) (And.intro (.inr ⟨_, rfl, h⟩) (trivial))) (fun h => (OpJ.callP (great_ok c [mo] hcb (by unfold bigN; show 1 ≤ _; omega) (fun x hx => by simp at hx; subst hx; exact hmo)) rfl rfl rfl rfl rf13)) ?_
  refine AList.c 39 rfl rfl rfl (OpJ.or_ rfl rfl rfl ?_) ?_
  · first | (intro h; rw [h]; rfl) | (intro h; simp_all)
  refine AList.c 40 rfl rfl rfl (OpJ.move rfl rfl) ?_
  refine AList.g 41 40 rfl rfl rfl rfl rfl rfl rfl [(1, _)] (fun h => And.intro (.inl rfl) (trivial)) (fun h => (OpJ.move rfl rfl)) ?_
  refine AList.g 42 40 rfl rfl rfl rfl rfl rfl rfl [(41, _)] (fun h => And.intro (.inr ⟨_, rfl, h⟩) (trivial)) (fun h => (OpJ.lenSlice rfl rfl sl39 rfl)) ?_
  refine AList.g 43 40 rfl rfl rfl rfl rfl rfl rfl [(42, _)] (fun h => And.intro (.inr ⟨_, rfl, h⟩) (trivial)) (fun h => (OpJ.geq rfl rfl rfl)) ?_
  refine AList.c 44 rfl rfl rfl (OpJ.or_ rfl rfl rfl ?_) ?_
  · first | (intro h; rw [h]; rfl) | (intro h; simp_all)
  refine AList.nil ?_
  refine AWp.cond _ rfl (fun hc0 => ?_) (fun hc0 => ?_)
  · skip
    refine AWp.seq ?_
    refine AWp.region ?_
    refine AList.c 45 rfl rfl rfl (OpJ.callP (alive_ok) rfl rfl rfl rfl rf14) ?_
    refine AList.c 10 rfl rfl rfl (OpJ.assign rfl rfl) ?_
    refine AList.nil ?_
    refine AWp.ret ?_
    exact Fin.oneE rfl rfl rfl
  · skip
    have h9 : ls.length ≤ 9 := by simp at hc0; omega
    refine AWp.skip ?_
    refine AWp.seq ?_
    refine AWp.region ?_
    refine AList.c 47 rfl rfl rfl (OpJ.move rfl rfl) ?_
    refine AList.c 48 rfl rfl rfl (OpJ.move rfl rfl) ?_
    refine AList.c 49 rfl rfl rfl (OpJ.load (v := .p (.agg s.cells)) rfl rfl ty41 rfl) ?_
    refine AList.c 50 rfl rfl rfl (OpJ.callP (cut_R c ls s hcb hb hs) rfl rfl rfl rfl rf22) ?_
    refine AList.c 46 rfl rfl rfl (OpJ.move rfl rfl) ?_
    refine AList.c 51 rfl rfl rfl (OpJ.extract rfl rfl rfl) ?_
    refine AList.c 52 rfl rfl rfl (OpJ.extract rfl rfl rfl) ?_
    refine AList.c 53 rfl rfl rfl (OpJ.extract rfl rfl rfl) ?_
    refine AList.c 11 rfl rfl rfl (OpJ.assign rfl rfl) ?_
    refine AList.c 12 rfl rfl rfl (OpJ.assign rfl rfl) ?_
    refine AList.c 13 rfl rfl rfl (OpJ.assign rfl rfl) ?_
    refine AList.nil ?_
    refine AWp.seq ?_
    refine AWp.seq ?_
    refine AWp.region ?_
    refine AList.c 54 rfl rfl rfl (OpJ.move rfl rfl) ?_
    refine AList.c 55 rfl rfl rfl (OpJ.neq rfl rfl rfl) ?_
    refine AList.c 56 rfl rfl rfl (OpJ.move rfl rfl) ?_
    refine AList.g 57 56 rfl rfl rfl rfl rfl rfl rfl [(7, _)] (fun h => And.intro (.inl rfl) (trivial)) (fun h => (OpJ.load (v := .p (.agg s.cells)) rfl rfl ty41 rfl)) ?_
    refine AList.g 58 56 rfl rfl rfl rfl rfl rfl rfl [(57, _)] (fun h => And.intro (.inr ⟨_, rfl, h⟩) (trivial)) (fun h => (OpJ.callP (rscale_ok s) rfl rfl rfl rfl rf35)) ?_
    refine AList.g 59 56 rfl rfl rfl rfl rfl rfl rfl [(58, _)] (fun h => And.intro (.inr ⟨_, rfl, h⟩) (trivial)) (fun h => (OpJ.not_ rfl rfl)) ?_
    refine AList.c 60 rfl rfl rfl (OpJ.or_ rfl rfl rfl ?_) ?_
    · first | (intro h; rw [h]; rfl) | (intro h; simp_all)
    refine AList.nil ?_
    refine AWp.cond _ rfl (fun hc1 => ?_) (fun hc1 => ?_)
    · skip
      have hE : (cutR c ls s).2.2 ≠ 0 ∧ (cutR c ls s).2.1 = 0 ∧ (cutR c ls s).1 = [] := by
        rcases cut_cases c ls s with ⟨e, h1, h2, _⟩ | h
        · rw [h2]; exact ⟨h1, rfl, rfl⟩
        · have h2 := (sclB_iff s).2 h.z
          rw [h.e] at hc1; simp [h2] at hc1
      refine AWp.seq ?_
      refine AWp.region ?_
      refine AList.c 61 rfl rfl rfl (OpJ.move rfl rfl) ?_
      refine AList.c 62 rfl rfl rfl (OpJ.neq rfl rfl rfl) ?_
      refine AList.c 63 rfl rfl rfl (OpJ.move rfl rfl) ?_
      refine AList.g 64 63 rfl rfl rfl rfl rfl rfl rfl [(12, _)] (fun h => And.intro (.inl rfl) (trivial)) (fun h => (OpJ.move rfl rfl)) ?_
      refine AList.g 65 63 rfl rfl rfl rfl rfl rfl rfl [(64, _)] (fun h => And.intro (.inr ⟨_, rfl, h⟩) (trivial)) (fun h => (OpJ.eql rfl rfl rfl)) ?_
      refine AList.c 66 rfl rfl rfl (OpJ.and_ rfl rfl rfl ?_) ?_
      · first | (intro h; rw [h]; rfl) | (intro h; simp_all)
      refine AList.c 67 rfl rfl rfl (OpJ.move rfl rfl) ?_
      refine AList.g 68 67 rfl rfl rfl rfl rfl rfl rfl [(11, _)] (fun h => And.intro (.inl rfl) (trivial)) (fun h => (OpJ.move rfl rfl)) ?_
      refine AList.g 69 67 rfl rfl rfl rfl rfl rfl rfl [(68, _)] (fun h => And.intro (.inr ⟨_, rfl, h⟩) (trivial)) (fun h => (OpJ.lenSlice rfl rfl sl34 rfl)) ?_
      refine AList.g 70 67 rfl rfl rfl rfl rfl rfl rfl [(69, _)] (fun h => And.intro (.inr ⟨_, rfl, h⟩) (trivial)) (fun h => (OpJ.eql rfl rfl rfl)) ?_
      refine AList.c 71 rfl rfl rfl (OpJ.and_ rfl rfl rfl ?_) ?_
      · first | (intro h; rw [h]; rfl) | (intro h; simp_all)
      refine AList.c 72 rfl rfl rfl (OpJ.move rfl rfl) ?_
      refine AList.g 73 72 rfl rfl rfl rfl rfl rfl rfl [] (fun h => trivial) (fun h => (OpJ.callP (alive_ok) rfl rfl rfl rfl rf14)) ?_
      refine AList.c 74 rfl rfl rfl (OpJ.and_ rfl rfl rfl ?_) ?_
      · first | (intro h; rw [h]; rfl) | (intro h; simp_all)
      refine AList.c 10 rfl rfl rfl (OpJ.assign rfl rfl) ?_
      refine AList.nil ?_
      refine AWp.ret ?_
      refine Fin.oneE rfl rfl ?_
      simp [hE.1, hE.2.1, hE.2.2]
    · skip
      have hK : CutOk c ls s := by
        rcases cut_cases c ls s with ⟨e, h1, h2, _⟩ | h
        · rw [h2] at hc1; simp [h1] at hc1
        · exact h
      have hE0 : (cutR c ls s).2.2 = 0 := by rw [hK.e]
      have hzg := hK.z.gap
      have hzl := hK.z.least
      have hzm := hK.z.most
      have hzn := hK.z.n
      refine AWp.skip ?_
      refine AWp.seq ?_
      refine AWp.regionDrawG 5 2 [0, 1] [([0], true), ([], false), ([1, 0], true), ([], false), ([], false)] mixed (by kernel_rfl) (by decide) (by kernel_rfl) rfl rfl ?_
      refine AQG.lay (v0 := .row 2 _) 75 0 rfl rfl rfl rfl rfl rfl rfl rfl (fun _ => (OpJ.buildOwn rfl slz39 (by decide) rfl rfl)) rfl rfl rfl ?_
      refine AQG.cons 76 rfl rfl rfl (fun _ => (OpJ.move rfl rfl)) rfl ?_
      refine AQG.turn (v0 := .row 2 _) 77 1 0 rfl rfl rfl rfl rfl rfl rfl rfl rfl rfl (fun _ => (OpJ.appendRow (i := 0) (len := 0) (cs := []) rfl rfl rfl slz39 sl39 rfl ?_ (asrc_is (xs := (ls.flatMap Lds.cells)) (n := ls.length) (sz := 11) (lds_len ls)) (oneLds ls) by28 (by decide) ?_)) rfl rfl (congrArg (fun z => Blk.row z 28) (renL_pure _ (ls.flatMap Lds.cells))) ?_
      · rfl
      · show (2 * (0 + ls.length) + 192) * 104 ≤ 281474976710656; omega
      refine AQG.cons 78 rfl rfl rfl (fun _ => (OpJ.load (v := .p (ldV mo)) rfl rfl ty28 rfl)) rfl ?_
      refine AQG.cons 79 rfl rfl rfl (fun _ => (OpJ.buildImm rfl slz39 (by decide) rfl rfl rfl)) rfl ?_
      refine AQG.nil ?_
      refine AList.c 80 rfl rfl rfl (OpJ.appendRow (i := 1) (len := 0 + ls.length) (cs := [] ++ (ls.flatMap Lds.cells).map .p) (ys := mo.cells.map .p) (n := 1) rfl rfl rfl slz39 sl39 rfl ?_ rfl rfl by28 (by decide) ?_) ?_
      · rw [List.nil_append, List.length_map, lds_len, Nat.zero_add]; rfl
      · show (2 * (0 + ls.length + 1) + 192) * 104 ≤ 281474976710656; omega
      refine AList.c 14 rfl rfl rfl (OpJ.assign rfl rfl) ?_
      refine AList.nil ?_
      refine AWp.seq ?_
      refine AWp.freeze 2 rfl (allP_cat (ls.flatMap Lds.cells) mo.cells) ?_
      refine AWp.norm [] [(0, _), (1, _), (4, _), (7, _), (11, _), (12, _), (10, _), (14, .p (ldsV (ls ++ [mo])))] [] rfl (Sub.cons rfl (Sub.cons rfl (Sub.cons rfl (Sub.cons rfl (Sub.cons rfl (Sub.cons rfl (Sub.cons rfl (Sub.cons (lds_cat ls mo) Sub.nil)))))))) rfl ?_
      refine AWp.region ?_
      refine AList.c 82 rfl rfl rfl (OpJ.move rfl rfl) ?_
      refine AList.c 83 rfl rfl rfl (OpJ.move rfl rfl) ?_
      refine AList.c 84 rfl rfl rfl (OpJ.load (v := .p (.agg s.cells)) rfl rfl ty41 rfl) ?_
      refine AList.c 85 rfl rfl rfl (OpJ.callP (cut_R c (ls ++ [mo]) s hcb (by unfold bigN; rw [List.length_append]; show ls.length + 1 ≤ _; omega) (fun x hx => by rcases List.mem_append.1 hx with h | h; { exact hs x h }; { simp at h; subst h; exact hmo })) rfl rfl rfl rfl rf22) ?_
      refine AList.c 81 rfl rfl rfl (OpJ.move rfl rfl) ?_
      refine AList.c 86 rfl rfl rfl (OpJ.extract rfl rfl rfl) ?_
      refine AList.c 87 rfl rfl rfl (OpJ.extract rfl rfl rfl) ?_
      refine AList.c 88 rfl rfl rfl (OpJ.extract rfl rfl rfl) ?_
      refine AList.c 15 rfl rfl rfl (OpJ.assign rfl rfl) ?_
      refine AList.c 16 rfl rfl rfl (OpJ.assign rfl rfl) ?_
      refine AList.c 17 rfl rfl rfl (OpJ.assign rfl rfl) ?_
      refine AList.nil ?_
      refine AWp.seq ?_
      refine AWp.seq ?_
      refine AWp.region ?_
      refine AList.c 89 rfl rfl rfl (OpJ.move rfl rfl) ?_
      refine AList.c 90 rfl rfl rfl (OpJ.eql rfl rfl rfl) ?_
      refine AList.c 91 rfl rfl rfl (OpJ.move rfl rfl) ?_
      refine AList.g 92 91 rfl rfl rfl rfl rfl rfl rfl [(16, _)] (fun h => And.intro (.inl rfl) (trivial)) (fun h => (OpJ.move rfl rfl)) ?_
      refine AList.g 93 91 rfl rfl rfl rfl rfl rfl rfl [(12, _)] (fun h => And.intro (.inl rfl) (trivial)) (fun h => (OpJ.move rfl rfl)) ?_
      refine AList.g 94 91 rfl rfl rfl rfl rfl rfl rfl [(92, _), (93, _)] (fun h => And.intro (.inr ⟨_, rfl, h⟩) (And.intro (.inr ⟨_, rfl, h⟩) (trivial))) (fun h => (OpJ.lss rfl rfl rfl)) ?_
      refine AList.c 95 rfl rfl rfl (OpJ.and_ rfl rfl rfl ?_) ?_
      · first | (intro h; rw [h]; rfl) | (intro h; simp_all)
      refine AList.nil ?_
      refine AWp.cond _ rfl (fun hc2 => ?_) (fun hc2 => ?_)
      · skip
        exfalso
        by_cases h0 : (cutR c (ls ++ [mo]) s).2.2 = 0
        · have h1 := sold_rich hK h0
          simp [h0] at hc2
          omega
        · simp [h0] at hc2
      · skip
        refine AWp.skip ?_
        refine AWp.seq ?_
        refine AWp.regionDrawG 8 3 [0, 1, 2] [([], false), ([], false), ([], false), ([0], true), ([1], true), ([2], true), ([0], true), ([1], true)] mixed (by kernel_rfl) (by decide) (by kernel_rfl) rfl rfl ?_
        refine AQG.cons 96 rfl rfl rfl (fun _ => (OpJ.load (v := .p (.agg s.cells)) rfl rfl ty41 rfl)) rfl ?_
        refine AQG.cons 97 rfl rfl rfl (fun _ => (OpJ.load (v := .p (.agg s.cells)) rfl rfl ty41 rfl)) rfl ?_
        refine AQG.cons 98 rfl rfl rfl (fun _ => (OpJ.load (v := .p (.agg s.cells)) rfl rfl ty41 rfl)) rfl ?_
        refine AQG.lay (v0 := .ptr 3 0) 18 0 rfl rfl rfl rfl rfl rfl rfl rfl (fun _ => (OpJ.allocOwn rfl zr41 rfl)) rfl rfl rfl ?_
        refine AQG.lay (v0 := .ptr 3 0) 19 1 rfl rfl rfl rfl rfl rfl rfl rfl (fun _ => (OpJ.allocOwn rfl zr41 rfl)) rfl rfl rfl ?_
        refine AQG.lay (v0 := .ptr 3 0) 20 2 rfl rfl rfl rfl rfl rfl rfl rfl (fun _ => (OpJ.allocOwn rfl zr41 rfl)) rfl rfl rfl ?_
        refine AQG.put 0 rfl rfl rfl rfl (fun _ => (OpJ.store rfl rfl rfl rfl rfl ty41 rfl rfl)) rfl rfl ?_
        refine AQG.put 1 rfl rfl rfl rfl (fun _ => (OpJ.store rfl rfl rfl rfl rfl ty41 rfl rfl)) rfl rfl ?_
        refine AQG.nil ?_
        refine AList.c0 rfl rfl (OpJ.store rfl rfl rfl rfl rfl ty41 rfl rfl) ?_
        refine AList.nil ?_
        refine AWp.seq ?_
        refine AWp.region ?_
        refine AList.c 99 rfl rfl rfl (OpJ.fieldAddr rfl rfl fd41_3 rfl) ?_
        refine AList.c 100 rfl rfl rfl (OpJ.load rfl rfl ty3 rfl) ?_
        refine AList.c 101 rfl rfl rfl (OpJ.move rfl rfl) ?_
        refine AList.c 102 rfl rfl rfl (OpJ.convInt rfl rfl (by rw [un5]; rfl) un3 (i64ok ?_)) ?_
        · omega
        refine AList.c 103 rfl rfl rfl (OpJ.rem (m := ((y % 7 : Nat) : Int)) rfl rfl rfl ?_ ?_) ?_
        · decide
        · exact tmodN _ _
        refine AList.c 104 rfl rfl rfl (OpJ.sub_ rfl rfl rfl (i64ok ?_)) ?_
        · omega
        refine AList.c 105 rfl rfl rfl (OpJ.max2 rfl rfl rfl) ?_
        refine AList.c 106 rfl rfl rfl (OpJ.fieldAddr rfl rfl fd41_3 rfl) ?_
        refine AList.c0 rfl rfl (OpJ.store rfl rfl rfl rfl rfl ty3 rfl rfl) ?_
        refine AList.nil ?_
        refine AWp.seq ?_
        refine AWp.region ?_
        refine AList.c 107 rfl rfl rfl (OpJ.fieldAddr rfl rfl fd41_3 rfl) ?_
        refine AList.c 108 rfl rfl rfl (OpJ.load rfl rfl ty3 rfl) ?_
        refine AList.c 109 rfl rfl rfl (OpJ.fieldAddr rfl rfl fd41_1 rfl) ?_
        refine AList.c 110 rfl rfl rfl (OpJ.load rfl rfl ty3 rfl) ?_
        refine AList.c 111 rfl rfl rfl (OpJ.move rfl rfl) ?_
        refine AList.c 112 rfl rfl rfl (OpJ.convInt rfl rfl (by rw [un5]; rfl) un3 (i64ok ?_)) ?_
        · omega
        refine AList.c 113 rfl rfl rfl (OpJ.rem (m := ((y % 9 : Nat) : Int)) rfl rfl rfl ?_ ?_) ?_
        · decide
        · exact tmodN _ _
        refine AList.c 114 rfl rfl rfl (OpJ.sub_ rfl rfl rfl (i64ok ?_)) ?_
        · omega
        refine AList.c 115 rfl rfl rfl (OpJ.max3 rfl rfl rfl rfl) ?_
        refine AList.c 116 rfl rfl rfl (OpJ.fieldAddr rfl rfl fd41_1 rfl) ?_
        refine AList.c0 rfl rfl (OpJ.store rfl rfl rfl rfl rfl ty3 rfl rfl) ?_
        refine AList.nil ?_
        refine AWp.seq ?_
        refine AWp.region ?_
        refine AList.c 117 rfl rfl rfl (OpJ.fieldAddr rfl rfl fd41_2 rfl) ?_
        refine AList.c 118 rfl rfl rfl (OpJ.load rfl rfl ty3 rfl) ?_
        refine AList.c 119 rfl rfl rfl (OpJ.move rfl rfl) ?_
        refine AList.c 120 rfl rfl rfl (OpJ.convInt rfl rfl (by rw [un5]; rfl) un3 (i64ok ?_)) ?_
        · omega
        refine AList.c 121 rfl rfl rfl (OpJ.rem (m := ((y % 11 : Nat) : Int)) rfl rfl rfl ?_ ?_) ?_
        · decide
        · exact tmodN _ _
        refine AList.c 122 rfl rfl rfl (OpJ.add rfl rfl rfl (i64ok ?_)) ?_
        · omega
        refine AList.c 123 rfl rfl rfl (OpJ.min2 rfl rfl rfl) ?_
        refine AList.c 124 rfl rfl rfl (OpJ.fieldAddr rfl rfl fd41_2 rfl) ?_
        refine AList.c0 rfl rfl (OpJ.store rfl rfl rfl rfl rfl ty3 rfl rfl) ?_
        refine AList.nil ?_
        refine AWp.seq ?_
        refine AWp.seq ?_
        refine AWp.region ?_
        refine AList.c 125 rfl rfl rfl (OpJ.load (v := .p (.agg (nearS s y).cells)) rfl rfl ty41 rfl) ?_
        refine AList.c 126 rfl rfl rfl (OpJ.load (v := .p (.agg (lowS s y).cells)) rfl rfl ty41 rfl) ?_
        refine AList.c 127 rfl rfl rfl (OpJ.load (v := .p (.agg (highS s y).cells)) rfl rfl ty41 rfl) ?_
        refine AList.c 128 rfl rfl rfl (OpJ.isR (xs := (threeS s y).flatMap Scl.cells) (OpJ.buildImm rfl slz81 (by decide) rfl rfl rfl) rfl) ?_
        refine AList.c 129 rfl rfl rfl (OpJ.lenSlice rfl rfl sl81 rfl) ?_
        refine AList.c 130 rfl rfl rfl (OpJ.move rfl rfl) ?_
        refine AList.nil ?_
        refine AWp.block ?_
        refine AWp.loopHL [0, 1, 4, 7, 11, 12, 26, 27, 28, 29, 30, 128, 129, 150, 151, 152, 153, 154, 155, 156, 157, 158, 159, 160, 161, 162, 163, 164, 165, 166, 167, 168, 169, 170, 171, 172, 173, 174, 175, 176, 177, 178, 179, 180, 181, 182, 183, 184, 185, 186, 187, 188, 189, 190, 191] (fun g => [(130, .p (.int .i64 ((g : Nat) : Int)))]) (fun g => []) (fun g => g ≤ 3) (fun g => 3 - g) 0 (Nat.zero_le _) (To.done [] rfl (by repeat (first | exact Sub.nil | refine Sub.cons rfl ?_)) rfl) (fun i hg => ?_)
        refine AWp.seq ?_
        refine AWp.region ?_
        refine AList.c 131 rfl rfl rfl (OpJ.lss rfl rfl rfl) ?_
        refine AList.nil ?_
        refine AWp.seq ?_
        refine AWp.cond _ rfl (fun hc3 => ?_) (fun hc3 => ?_)
        · skip
          have hk0 : i < (threeS s y).length := by have h := of_decide_eq_true hc3; show i < 3; omega
          have hi3 : i < 3 := hk0
          have h3 := sold_three hK y i hi3
          refine AWp.skip ?_
          refine AWp.seq ?_
          refine AWp.block ?_
          refine AWp.seq ?_
          refine AWp.region ?_
          refine AList.c 132 rfl rfl rfl (OpJ.indexG (g := sAt s y) (sAt_get s y) rfl rfl rfl sl81 el81 rfl (fun _ => rfl) (by decide) hk0) ?_
          refine AList.c 133 rfl rfl rfl (OpJ.load (v := .p (.agg (sAt s y i).cells)) rfl rfl ty41 rfl) ?_
          refine AList.c 22 rfl rfl rfl (OpJ.allocOwn rfl zr41 rfl) ?_
          refine AList.c0 rfl rfl (OpJ.store (H' := [.cells ((sAt s y i).cells.map .p) 41]) rfl rfl rfl rfl rfl ty41 rfl rfl) ?_
          refine AList.nil ?_
          refine AWp.seq ?_
          refine AWp.region ?_
          refine AList.c 135 rfl rfl rfl (OpJ.move rfl rfl) ?_
          refine AList.c 136 rfl rfl rfl (OpJ.move rfl rfl) ?_
          refine AList.c 137 rfl rfl rfl (OpJ.load (v := .p (.agg (sAt s y i).cells)) rfl rfl ty41 rfl) ?_
          refine AList.c 138 rfl rfl rfl (OpJ.callP (cut_R c ls (sAt s y i) hcb hb hs) rfl rfl rfl rfl rf22) ?_
          refine AList.c 134 rfl rfl rfl (OpJ.move rfl rfl) ?_
          refine AList.c 139 rfl rfl rfl (OpJ.extract rfl rfl rfl) ?_
          refine AList.c 140 rfl rfl rfl (OpJ.extract rfl rfl rfl) ?_
          refine AList.c 141 rfl rfl rfl (OpJ.extract rfl rfl rfl) ?_
          refine AList.c 23 rfl rfl rfl (OpJ.assign rfl rfl) ?_
          refine AList.c 24 rfl rfl rfl (OpJ.assign rfl rfl) ?_
          refine AList.c 25 rfl rfl rfl (OpJ.assign rfl rfl) ?_
          refine AList.nil ?_
          refine AWp.seq ?_
          refine AWp.region ?_
          refine AList.c 142 rfl rfl rfl (OpJ.move rfl rfl) ?_
          refine AList.c 143 rfl rfl rfl (OpJ.neq rfl rfl rfl) ?_
          refine AList.c 144 rfl rfl rfl (OpJ.move rfl rfl) ?_
          refine AList.g 145 144 rfl rfl rfl rfl rfl rfl rfl [(24, _)] (fun h => And.intro (.inl rfl) (trivial)) (fun h => (OpJ.move rfl rfl)) ?_
          refine AList.g 146 144 rfl rfl rfl rfl rfl rfl rfl [(12, _)] (fun h => And.intro (.inl rfl) (trivial)) (fun h => (OpJ.move rfl rfl)) ?_
          refine AList.g 147 144 rfl rfl rfl rfl rfl rfl rfl [(145, _), (146, _)] (fun h => And.intro (.inr ⟨_, rfl, h⟩) (And.intro (.inr ⟨_, rfl, h⟩) (trivial))) (fun h => (OpJ.lss rfl rfl rfl)) ?_
          refine AList.c 148 rfl rfl rfl (OpJ.or_ rfl rfl rfl ?_) ?_
          · first | (intro h; rw [h]; rfl) | (intro h; simp_all)
          refine AList.nil ?_
          refine AWp.cond _ rfl (fun hc4 => ?_) (fun hc4 => ?_)
          · skip
            exfalso
            rw [h3.1.e] at hc4 h3
            simp at hc4
            have h4 := h3.2
            simp at h4
            omega
          · skip
            refine AWp.skip ?_
            refine AWp.region ?_
            refine AList.c 149 rfl rfl rfl (OpJ.add rfl rfl rfl (i64ok ?_)) ?_
            · have : i < 3 := hi3; omega
            refine AList.c 130 rfl rfl rfl (OpJ.move rfl rfl) ?_
            refine AList.nil ?_
            refine ⟨i + 1, ?_, ?_, ?_⟩
            · omega
            · omega
            exact To.done [] rfl (by repeat (first | exact Sub.nil | refine Sub.cons rfl ?_)) rfl
        · skip
          refine AWp.exit ?_
          refine AWp.seq ?_
          refine AWp.region ?_
          refine AList.c 26 rfl rfl rfl (OpJ.assign rfl rfl) ?_
          refine AList.nil ?_
          refine AWp.seq ?_
          refine AWp.seq ?_
          refine AWp.region ?_
          refine AList.c 150 rfl rfl rfl (OpJ.move rfl rfl) ?_
          refine AList.c 151 rfl rfl rfl (OpJ.lenSlice rfl rfl sl39 rfl) ?_
          refine AList.c 152 rfl rfl rfl (OpJ.move rfl rfl) ?_
          refine AList.nil ?_
          refine AWp.block ?_
          refine AWp.loopHL [0, 1, 4, 7, 10, 11, 12, 28, 29, 30, 151, 169, 170, 171, 172, 173, 174, 175, 176, 177, 178, 179, 180, 181, 182, 183, 184, 185, 186, 187, 188, 189, 190, 191] (fun g => [(152, .p (.int .i64 ((g : Nat) : Int))), (26, accV 0 g)]) (fun g => [accB (((turnL ls y g).flatMap Lds.cells).map .p) 28 g]) (fun g => g ≤ ls.length) (fun g => ls.length - g) 0 (Nat.zero_le _) (To.pad.trans (To.sub (Sub.chk (Sub.cons rfl (Sub.cons rfl Sub.nil))))) (fun i hg => ?_)
          refine AWp.seq ?_
          refine AWp.region ?_
          refine AList.c 153 rfl rfl rfl (OpJ.lss rfl rfl rfl) ?_
          refine AList.nil ?_
          refine AWp.seq ?_
          refine AWp.cond _ rfl (fun hc5 => ?_) (fun hc5 => ?_)
          · skip
            have hk1 : i < ls.length := by have h := of_decide_eq_true hc5; omega
            have hl0 : 0 < ls.length := by omega
            have hkm := Nat.mod_lt (i + y) hl0
            refine AWp.skip ?_
            refine AWp.seq ?_
            refine AWp.block ?_
            refine AWp.seq ?_
            refine AWp.region ?_
            refine AList.c 154 rfl rfl rfl (OpJ.move rfl rfl) ?_
            refine AList.c 27 rfl rfl rfl (OpJ.assign rfl rfl) ?_
            refine AList.nil ?_
            refine AWp.region ?_
            refine AList.c 155 rfl rfl rfl (OpJ.move rfl rfl) ?_
            refine AList.c 156 rfl rfl rfl (OpJ.move rfl rfl) ?_
            refine AList.c 157 rfl rfl rfl (OpJ.move rfl rfl) ?_
            refine AList.c 158 rfl rfl rfl (OpJ.move rfl rfl) ?_
            refine AList.c 159 rfl rfl rfl (OpJ.convInt rfl rfl (by rw [un5]; rfl) un3 (i64ok ?_)) ?_
            · omega
            refine AList.c 160 rfl rfl rfl (OpJ.add (m := ((i + y : Nat) : Int)) rfl rfl rfl ((i64ok ?_).trans ?_)) ?_
            · omega
            · omega
            refine AList.c 161 rfl rfl rfl (OpJ.move rfl rfl) ?_
            refine AList.c 162 rfl rfl rfl (OpJ.lenSlice rfl rfl sl39 rfl) ?_
            refine AList.c 163 rfl rfl rfl (OpJ.rem (m := (((i + y) % ls.length : Nat) : Int)) rfl rfl rfl ?_ ?_) ?_
            · omega
            · exact tmodN _ _
            refine AList.c 164 rfl rfl rfl (OpJ.indexG (g := ld ls) (fun _ h => ld_get h) rfl rfl rfl sl39 el39 rfl (fun _ => rfl) (by decide) hkm) ?_
            refine AList.c 165 rfl rfl rfl (OpJ.load (v := .p (ldV (ld ls ((i + y) % ls.length)))) rfl rfl ty28 rfl) ?_
            refine AList.c 166 rfl rfl rfl (OpJ.buildImm rfl slz39 (by decide) rfl rfl rfl) ?_
            refine AList.c 167 rfl rfl rfl (OpJ.appendAcc rfl rfl rfl slz39 sl39 rfl ?_ rfl (by decide) rfl by28 (by decide) ?_) ?_
            · rw [List.length_map, lds_len, turnL_len]; rfl
            · show (2 * (i + 1) + 192) * 104 ≤ 281474976710656; omega
            refine AList.c 26 rfl rfl rfl (OpJ.assign rfl rfl) ?_
            refine AList.nil ?_
            refine AWp.region ?_
            refine AList.c 168 rfl rfl rfl (OpJ.add rfl rfl rfl (i64ok ?_)) ?_
            · omega
            refine AList.c 152 rfl rfl rfl (OpJ.move rfl rfl) ?_
            refine AList.nil ?_
            refine ⟨i + 1, ?_, ?_, ?_⟩
            · omega
            · omega
            refine To.done [1] rfl (by repeat (first | exact Sub.nil | refine Sub.cons rfl ?_)) ?_
            show [Blk.row (renL _ (_ ++ _)) _] = [Blk.row _ _]
            rw [renL_app, renL_pure, turnL_succ, List.flatMap_append, List.map_append]
            rfl
          · skip
            obtain rfl : ls.length = i := by have h := of_decide_eq_false hc5; omega
            refine AWp.to (To.accD 26 0 ls.length rfl rfl (fun h => by rw [h]; rfl)) ?_
            have htn : turnL ls y ls.length = turnL ls y ls.length := rfl
            refine AWp.exit ?_
            refine AWp.seq ?_
            have eT : (V.p (.is ((turnL ls y ls.length).flatMap Lds.cells) ls.length)) = V.p (ldsV (turnL ls y ls.length)) := by unfold ldsV; rw [turnL_len]
            rw [eT]
            refine AWp.region ?_
            refine AList.c 170 rfl rfl rfl (OpJ.move rfl rfl) ?_
            refine AList.c 171 rfl rfl rfl (OpJ.move rfl rfl) ?_
            refine AList.c 172 rfl rfl rfl (OpJ.load (v := .p (.agg s.cells)) rfl rfl ty41 rfl) ?_
            refine AList.c 173 rfl rfl rfl (OpJ.callP (cut_R c (turnL ls y ls.length) s hcb (by rw [turnL_len]; exact hb) (fun x hx => by rcases Nat.eq_zero_or_pos ls.length with h | h; { rw [h] at hx; simp [turnL] at hx }; { exact hs x ((turnL_mem y h).1 hx) })) rfl rfl rfl rfl rf22) ?_
            refine AList.c 169 rfl rfl rfl (OpJ.move rfl rfl) ?_
            refine AList.c 174 rfl rfl rfl (OpJ.extract rfl rfl rfl) ?_
            refine AList.c 175 rfl rfl rfl (OpJ.extract rfl rfl rfl) ?_
            refine AList.c 176 rfl rfl rfl (OpJ.extract rfl rfl rfl) ?_
            refine AList.c 28 rfl rfl rfl (OpJ.assign rfl rfl) ?_
            refine AList.c 29 rfl rfl rfl (OpJ.assign rfl rfl) ?_
            refine AList.c 30 rfl rfl rfl (OpJ.assign rfl rfl) ?_
            refine AList.nil ?_
            refine AWp.seq ?_
            rw [sold_turned y hK]
            refine AWp.region ?_
            refine AList.c 177 rfl rfl rfl (OpJ.move rfl rfl) ?_
            refine AList.c 178 rfl rfl rfl (OpJ.move rfl rfl) ?_
            refine AList.c 179 rfl rfl rfl (OpJ.callP (ints_ok (cutR c ls s).1 (cutR c ls s).1 (Nat.le_trans (cutR_len c ls s) (by unfold bigN; omega)) (Nat.le_trans (cutR_len c ls s) (by unfold bigN; omega))) rfl rfl rfl rfl rf19) ?_
            refine AList.c 180 rfl rfl rfl (OpJ.move rfl rfl) ?_
            refine AList.g 181 180 rfl rfl rfl rfl rfl rfl rfl [(29, _)] (fun h => And.intro (.inl rfl) (trivial)) (fun h => (OpJ.move rfl rfl)) ?_
            refine AList.g 182 180 rfl rfl rfl rfl rfl rfl rfl [(12, _)] (fun h => And.intro (.inl rfl) (trivial)) (fun h => (OpJ.move rfl rfl)) ?_
            refine AList.g 183 180 rfl rfl rfl rfl rfl rfl rfl [(181, _), (182, _)] (fun h => And.intro (.inr ⟨_, rfl, h⟩) (And.intro (.inr ⟨_, rfl, h⟩) (trivial))) (fun h => (OpJ.eql rfl rfl rfl)) ?_
            refine AList.c 184 rfl rfl rfl (OpJ.and_ rfl rfl rfl ?_) ?_
            · first | (intro h; rw [h]; rfl) | (intro h; simp_all)
            refine AList.c 185 rfl rfl rfl (OpJ.move rfl rfl) ?_
            refine AList.g 186 185 rfl rfl rfl rfl rfl rfl rfl [(30, _)] (fun h => And.intro (.inl rfl) (trivial)) (fun h => (OpJ.move rfl rfl)) ?_
            refine AList.g 187 185 rfl rfl rfl rfl rfl rfl rfl [(186, _)] (fun h => And.intro (.inr ⟨_, rfl, h⟩) (trivial)) (fun h => (OpJ.eql rfl rfl rfl)) ?_
            refine AList.c 188 rfl rfl rfl (OpJ.and_ rfl rfl rfl ?_) ?_
            · first | (intro h; rw [h]; rfl) | (intro h; simp_all)
            refine AList.c 189 rfl rfl rfl (OpJ.move rfl rfl) ?_
            refine AList.g 190 189 rfl rfl rfl rfl rfl rfl rfl [] (fun h => trivial) (fun h => (OpJ.callP (alive_ok) rfl rfl rfl rfl rf14)) ?_
            refine AList.c 191 rfl rfl rfl (OpJ.and_ rfl rfl rfl ?_) ?_
            · first | (intro h; rw [h]; rfl) | (intro h; simp_all)
            refine AList.c 10 rfl rfl rfl (OpJ.assign rfl rfl) ?_
            refine AList.nil ?_
            refine AWp.ret ?_
            refine Fin.oneE rfl rfl ?_
            simp [hE0]
theorem shadeSold_law {x0 x1 x2 x3 x4 : List PV} (h0 : TyL [.sl [.leaf (.int .i64), .leaf (.int .i64)]] x0) (h1 : TyL [.sl [.leaf (.int .i64), .leaf (.int .i64), .leaf (.int .i64), .leaf (.int .i64), .leaf (.int .i64), .sl [.leaf (.int .i64), .leaf (.int .i64), .leaf (.int .i64), .leaf (.int .i64)], .leaf (.int .i64), .leaf (.int .i64), .leaf (.int .i64), .leaf (.int .i64), .leaf (.int .i64)]] x1) (h2 : TyL [.leaf (.int .i64), .leaf (.int .i64), .leaf (.int .i64), .leaf (.int .i64)] x2) (h3 : TyL [.leaf (.int .i64), .leaf (.int .i64), .leaf (.int .i64), .leaf (.int .i64), .leaf (.int .i64), .sl [.leaf (.int .i64), .leaf (.int .i64), .leaf (.int .i64), .leaf (.int .i64)], .leaf (.int .i64), .leaf (.int .i64), .leaf (.int .i64), .leaf (.int .i64), .leaf (.int .i64)] x3) (h4 : TyL [.leaf (.int .u8)] x4) : Pure Try.prog 11 [argP false x0, argP false x1, argP true x2, argP true x3, argP false x4] (.bool true) := by
  obtain ⟨c, rfl, hc⟩ := cur_of h0
  obtain ⟨l, rfl, hl, hs⟩ := lds_of h1
  obtain ⟨s, rfl⟩ := scl_of h2
  obtain ⟨mo, rfl, hm⟩ := ld_of h3
  obtain ⟨y, rfl, hy⟩ := u8_of h4
  exact shadeSold_main c l s mo y hc hl hs hm hy
end Go.Proofs.Ythiapodcippnoaa
