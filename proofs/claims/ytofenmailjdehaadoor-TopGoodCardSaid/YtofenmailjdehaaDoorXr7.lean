/-
  The law TopCause.
-/
import Derived.Test.YtofenmailjdehaaDoorXrFacts
import Derived.Test.YtofenmailjdehaaDoorXr6
set_option linter.unusedVariables false
set_option maxRecDepth 100000
set_option maxHeartbeats 4000000
set_option linter.unusedSimpArgs false
namespace Go.Proofs.YtofenmailjdehaaDoor
open Go.AF
theorem rep_cards (n : Nat) : (List.replicate n [PV.int .i64 0, PV.int .i64 0]).flatten = (List.replicate n (⟨0, 0⟩ : Bat)).flatMap Bat.cells := by
  induction n with
  | zero => rfl
  | succ n ih => rw [List.replicate_succ, List.replicate_succ, List.flatten_cons, List.flatMap_cons, ih]; rfl
theorem op_eq {c : Crt} {l : List Lk} (h : Fit c l) (hl : l.length ≤ 40) : opE (topC c) l = opT c l := by
  unfold opE opT
  rw [if_pos h.cr, if_neg (by omega), if_neg]
  intro e
  obtain ⟨x, hx, h2⟩ := List.any_eq_true.1 e
  rw [h.lk x hx] at h2
  cases h2
theorem fou_eq {c : Crt} {l : List Lk} (h : Fit c l) (hl : l.length ≤ 40) : fouC (topC c) l = [.int .i64 (((if opT c l = 0 then (picF (topC c) (truL (topC c) l)).cr else 0) : Nat) : Int), .int .i64 (((if opT c l = 0 then (picF (topC c) (truL (topC c) l)).cc else 0) : Nat) : Int), .int .i64 (((if opT c l = 0 then (picF (topC c) (truL (topC c) l)).sr else 0) : Nat) : Int), .int .i64 (((if opT c l = 0 then (picF (topC c) (truL (topC c) l)).sc else 0) : Nat) : Int)] := by
  unfold fouC fouL
  rw [op_eq h hl]
  split <;> rfl
theorem cnt_eq {c : Crt} {l : List Lk} (h : Fit c l) (hl : l.length ≤ 40) : cntS (topC c) l = (if opT c l = 0 then ((picF (topC c) (truL (topC c) l)).lo, (picF (topC c) (truL (topC c) l)).hi) else (0, 0)) := by
  unfold cntS
  rw [op_eq h hl]
theorem gd_B {c : Crt} (h : crB (topC c) = true) : 1 ≤ c.rows.length ∧ c.rows.length ≤ 8 ∧ 1 ≤ c.cols ∧ c.cols ≤ 8 ∧ 0 ≤ (c.rows.length : Int) * (c.cols + 1) ∧ (c.rows.length : Int) * (c.cols + 1) ≤ 72 ∧ (c.rows.length : Int) * (c.cols + 1) = ((totN c : Nat) : Int) := by
  obtain ⟨h1, h2, _⟩ := crB_of h
  have h1 : 1 ≤ c.rows.length ∧ c.rows.length ≤ 8 := h1
  have h2 : 1 ≤ c.cols ∧ c.cols ≤ 8 := h2
  have e : (c.rows.length : Int) * (c.cols + 1) = ((totN c : Nat) : Int) := by
    unfold totN cN
    rw [Int.natCast_add, Int.natCast_mul, Int.toNat_of_nonneg (by omega), Int.mul_add]
    omega
  have h3 := Int.mul_le_mul (show (c.rows.length : Int) ≤ 8 by omega) (show c.cols + 1 ≤ 9 by omega) (by omega) (by omega)
  refine ⟨h1.1, h1.2, h2.1, h2.2, by rw [e]; omega, by omega, e⟩
theorem rlooks_g {c : Crt} {l : List Lk} (hbl : l.length ≤ bigN) (h : crB (topC c) = true) : Pure Tryd.prog 6 [crV (topC c), lksV l] (.bool (l.all fun x => !wrB (topC c) x)) := rlooks_ok (topC c) l hbl h
theorem topCause_main (c : Crt) (l : List Lk) (hb : c.rows.length ≤ bigN) (hbl : l.length ≤ bigN) : Pure Tryd.prog 3 [crV c, lksV l] (.bool true) := by
  have hbl2 := hbl
  unfold bigN at hbl2
  refine Pure.start (N := 219) Tryd.func3 rfl rfl (Nat.le_of_ble_eq_true rfl) ?_
  refine AWp.seq ?_
  refine AWp.region ?_
  refine AList.c 2 rfl rfl rfl (OpJ.boxOwn rfl rfl rfl) ?_
  refine AList.c 4 rfl rfl rfl (OpJ.assign rfl rfl) ?_
  refine AList.nil ?_
  refine AWp.seq ?_
  refine AWp.region ?_
  refine AList.c 21 rfl rfl rfl (OpJ.fieldAddr rfl rfl fd24_2 rfl) ?_
  refine AList.c0 rfl rfl (OpJ.store rfl rfl rfl rfl rfl ty3 rfl rfl) ?_
  refine AList.c 22 rfl rfl rfl (OpJ.fieldAddr rfl rfl fd24_3 rfl) ?_
  refine AList.c0 rfl rfl (OpJ.store rfl rfl rfl rfl rfl ty3 rfl rfl) ?_
  refine AList.nil ?_
  refine AWp.seq ?_
  refine AWp.seq ?_
  refine AWp.freeze 0 rfl rfl ?_
  refine AWp.norm [] [(1, .p (lksV l)), (2, .p (.ip (crC (topC c)) 0))] [] rfl (by repeat (first | exact Sub.nil | refine Sub.cons rfl ?_)) rfl ?_
  refine AWp.region ?_
  refine AList.c 23 rfl rfl rfl (OpJ.move rfl rfl) ?_
  refine AList.c 24 rfl rfl rfl (OpJ.lenSlice rfl rfl sl25 rfl) ?_
  refine AList.c 25 rfl rfl rfl (OpJ.gtr rfl rfl rfl) ?_
  refine AList.c 26 rfl rfl rfl (OpJ.move rfl rfl) ?_
  refine AList.g 27 26 rfl rfl rfl rfl rfl rfl rfl [(2, _)] (fun h => And.intro (.inl rfl) (trivial)) (fun h => (OpJ.load rfl rfl ty24 rfl)) ?_
  refine AList.g 28 26 rfl rfl rfl rfl rfl rfl rfl [(27, _)] (fun h => And.intro (.inr ⟨_, rfl, h⟩) (trivial)) (fun h => (OpJ.callP (rcrate_ok (topC c) hb) rfl rfl rfl rfl rf5)) ?_
  refine AList.g 29 26 rfl rfl rfl rfl rfl rfl rfl [(28, _)] (fun h => And.intro (.inr ⟨_, rfl, h⟩) (trivial)) (fun h => (OpJ.not_ rfl rfl)) ?_
  refine AList.c 30 rfl rfl rfl (OpJ.or_ rfl rfl rfl ?_) ?_
  · first | (intro h; rw [h]; rfl) | (intro h; simp_all)
  refine AList.c 31 rfl rfl rfl (OpJ.move rfl rfl) ?_
  refine AList.g 32 31 rfl rfl rfl rfl rfl rfl rfl [(2, _)] (fun h => And.intro (.inl rfl) (trivial)) (fun h => (OpJ.load (v := .p (crV (topC c))) rfl rfl ty24 rfl)) ?_
  refine AList.g 33 31 rfl rfl rfl rfl rfl rfl rfl [(1, _)] (fun h => And.intro (.inl rfl) (trivial)) (fun h => (OpJ.move rfl rfl)) ?_
  refine AList.g 34 31 rfl rfl rfl rfl rfl rfl rfl [(32, _), (33, _)] (fun h => And.intro (.inr ⟨_, rfl, h⟩) (And.intro (.inr ⟨_, rfl, h⟩) (trivial))) (fun h => (OpJ.callP (rlooks_g hbl (by simp at h; exact h.2)) rfl rfl rfl rfl rf6)) ?_
  refine AList.g 35 31 rfl rfl rfl rfl rfl rfl rfl [(34, _)] (fun h => And.intro (.inr ⟨_, rfl, h⟩) (trivial)) (fun h => (OpJ.not_ rfl rfl)) ?_
  refine AList.c 36 rfl rfl rfl (OpJ.or_ rfl rfl rfl ?_) ?_
  · first | (intro h; rw [h]; rfl) | (intro h; simp_all)
  refine AList.c 37 rfl rfl rfl (OpJ.move rfl rfl) ?_
  refine AList.g 38 37 rfl rfl rfl rfl rfl rfl rfl [(2, _)] (fun h => And.intro (.inl rfl) (trivial)) (fun h => (OpJ.fieldAddr rfl rfl fd24_0 rfl)) ?_
  refine AList.g 39 37 rfl rfl rfl rfl rfl rfl rfl [(38, _)] (fun h => And.intro (.inr ⟨_, rfl, h⟩) (trivial)) (fun h => (OpJ.load (v := .p (intsV c.rows)) rfl rfl ty22 rfl)) ?_
  refine AList.g 40 37 rfl rfl rfl rfl rfl rfl rfl [(39, _)] (fun h => And.intro (.inr ⟨_, rfl, h⟩) (trivial)) (fun h => (OpJ.lenSlice rfl rfl sl22 rfl)) ?_
  refine AList.g 41 37 rfl rfl rfl rfl rfl rfl rfl [(2, _)] (fun h => And.intro (.inl rfl) (trivial)) (fun h => (OpJ.fieldAddr rfl rfl fd24_1 rfl)) ?_
  refine AList.g 42 37 rfl rfl rfl rfl rfl rfl rfl [(41, _)] (fun h => And.intro (.inr ⟨_, rfl, h⟩) (trivial)) (fun h => (OpJ.load (v := .p (.int .i64 c.cols)) rfl rfl ty3 rfl)) ?_
  refine AList.g 43 37 rfl rfl rfl rfl rfl rfl rfl [(42, _)] (fun h => And.intro (.inr ⟨_, rfl, h⟩) (trivial)) (fun h => (OpJ.add rfl rfl rfl (i64ok (by simp at h; have hB := gd_B h.1.2; omega)))) ?_
  refine AList.g 44 37 rfl rfl rfl rfl rfl rfl rfl [(40, _), (43, _)] (fun h => And.intro (.inr ⟨_, rfl, h⟩) (And.intro (.inr ⟨_, rfl, h⟩) (trivial))) (fun h => (OpJ.mul rfl rfl rfl (i64ok (by simp at h; have hB := gd_B h.1.2; omega)))) ?_
  refine AList.g 45 37 rfl rfl rfl rfl rfl rfl rfl [(44, _)] (fun h => And.intro (.inr ⟨_, rfl, h⟩) (trivial)) (fun h => (OpJ.gtr rfl rfl rfl)) ?_
  refine AList.c 46 rfl rfl rfl (OpJ.or_ rfl rfl rfl ?_) ?_
  · first | (intro h; rw [h]; rfl) | (intro h; simp_all)
  refine AList.nil ?_
  refine AWp.cond _ rfl (fun hc0 => ?_) (fun hc0 => ?_)
  · skip
    refine AWp.seq ?_
    refine AWp.region ?_
    refine AList.c 47 rfl rfl rfl (OpJ.callP (awake11_ok) rfl rfl rfl rfl rf7) ?_
    refine AList.c 4 rfl rfl rfl (OpJ.assign rfl rfl) ?_
    refine AList.nil ?_
    refine AWp.ret ?_
    exact Fin.oneE rfl rfl rfl
  · skip
    obtain ⟨hl40, hcr, hlk, hsz⟩ : l.length ≤ 40 ∧ crB (topC c) = true ∧ (∀ x ∈ l, wrB (topC c) x = false) ∧ totN c ≤ 24 := by
      have h2 := hc0
      simp only [Bool.or_eq_false_iff, decide_eq_false_iff_not, Bool.not_eq_false'] at h2
      obtain ⟨⟨⟨h3, h4⟩, h5⟩, h6⟩ := h2
      have hB := (gd_B h4).2.2.2.2.2.2
      exact ⟨by omega, h4, fun x hx => by simpa using List.all_eq_true.1 h5 x hx, by omega⟩
    have F : Fit c l := ⟨hcr, hlk, hsz⟩
    obtain ⟨⟨hR1, hR⟩, ⟨hC1, hC, hCe⟩, hrn⟩ := fit_c F
    have hR0 : 0 < c.rows.length := hR1
    have hbb : (crds c).length ≤ bigN := by rw [crds_len]; unfold bigN; omega
    refine AWp.skip ?_
    refine AWp.seq ?_
    refine AWp.region ?_
    refine AList.c 48 rfl rfl rfl (OpJ.fieldAddr rfl rfl fd24_0 rfl) ?_
    refine AList.c 49 rfl rfl rfl (OpJ.load (v := .p (intsV c.rows)) rfl rfl ty22 rfl) ?_
    refine AList.c 50 rfl rfl rfl (OpJ.lenSlice rfl rfl sl22 rfl) ?_
    refine AList.c 51 rfl rfl rfl (OpJ.makeSlice (n := c.rows.length) (c := c.rows.length) rfl rfl rfl slz29 by31 (by decide) (Nat.le_refl _) (by omega)) ?_
    refine AList.c 5 rfl rfl rfl (OpJ.assign rfl rfl) ?_
    refine AList.nil ?_
    refine AWp.seq ?_
    refine AWp.seq ?_
    rw [rep_cards, ← cards_0]
    refine AWp.norm [0] [(1, .p (lksV l)), (2, .p (.ip (crC (topC c)) 0)), (5, accV 0 (c.rows.length + 0 * cN c))] [accB (((cardsL c (c.rows.length + 0 * cN c)).flatMap Bat.cells).map .p) 31 (c.rows.length + 0 * cN c)] rfl (Sub.cons rfl (Sub.cons rfl (Sub.cons (by show some (V.row 0 c.rows.length) = some (accV 0 (c.rows.length + 0 * cN c)); rw [Nat.zero_mul, Nat.add_zero, accV_pos hR0]) Sub.nil))) (by rw [Nat.zero_mul, Nat.add_zero, accB_pos hR0]; show [Blk.row (renL _ (List.map V.p _)) _] = _; rw [renL_pure]) ?_
    refine AWp.region ?_
    refine AList.c 6 rfl rfl rfl (OpJ.assign rfl rfl) ?_
    refine AList.nil ?_
    refine AWp.block ?_
    refine AWp.loopHL [1, 2, 4, 8, 9, 10, 11, 12, 13, 14, 15, 16, 17, 19, 20, 76, 77, 78, 79, 80, 81, 82, 83, 84, 85, 86, 87, 88, 89, 90, 91, 92, 93, 94, 95, 96, 97, 98, 99, 100, 101, 102, 103, 104, 105, 106, 107, 108, 109, 110, 111, 112, 113, 114, 115, 116, 117, 118, 119, 120, 121, 122, 123, 124, 125, 126, 127, 128, 129, 130, 131, 132, 133, 134, 135, 136, 137, 138, 139, 140, 141, 142, 143, 144, 145, 146, 147, 148, 149, 150, 151, 152, 153, 154, 155, 156, 157, 158, 159, 160, 161, 162, 163, 164, 165, 166, 167, 168, 169, 170, 171, 172, 173, 174, 175, 176, 177, 178, 179, 180, 181, 182, 183, 184, 185, 186, 187, 188, 189, 190, 191, 192, 193, 194, 195, 196, 197, 198, 199, 200, 201, 202, 203, 204, 205, 206, 207, 208, 209, 210, 211, 212, 213, 214, 215, 216, 217, 218] (fun g => [(6, .p (.int .i64 ((g : Nat) : Int))), (5, accV 0 (c.rows.length + g * cN c))]) (fun g => [accB (((cardsL c (c.rows.length + g * cN c)).flatMap Bat.cells).map .p) 31 (c.rows.length + g * cN c)]) (fun g => g ≤ c.rows.length) (fun g => c.rows.length - g) 0 (Nat.zero_le _) (To.sub (Sub.chk (Sub.cons rfl (Sub.cons rfl (Sub.nil))))) (fun r hg => ?_)
    refine AWp.seq ?_
    refine AWp.seq ?_
    refine AWp.region ?_
    refine AList.c 52 rfl rfl rfl (OpJ.move rfl rfl) ?_
    refine AList.c 53 rfl rfl rfl (OpJ.fieldAddr rfl rfl fd24_0 rfl) ?_
    refine AList.c 54 rfl rfl rfl (OpJ.load (v := .p (intsV c.rows)) rfl rfl ty22 rfl) ?_
    refine AList.c 55 rfl rfl rfl (OpJ.lenSlice rfl rfl sl22 rfl) ?_
    refine AList.c 56 rfl rfl rfl (OpJ.lss rfl rfl rfl) ?_
    refine AList.nil ?_
    refine AWp.cond _ rfl (fun hc1 => ?_) (fun hc1 => ?_)
    · skip
      have hk0 : r < c.rows.length := by have h := of_decide_eq_true hc1; omega
      have hst := row_lt hk0 (show 0 < cN c by omega)
      have hst2 : (r + 1) * cN c ≤ c.rows.length * cN c := Nat.mul_le_mul_right _ hk0
      refine AWp.skip ?_
      refine AWp.seq ?_
      refine AWp.block ?_
      refine AWp.seq ?_
      refine AWp.region ?_
      refine AList.c 7 rfl rfl rfl (OpJ.assign rfl rfl) ?_
      refine AList.nil ?_
      refine AWp.block ?_
      refine AWp.loopHL [1, 2, 4, 6, 8, 9, 10, 11, 12, 13, 14, 15, 16, 17, 19, 20, 52, 53, 54, 55, 56, 57, 58, 76, 77, 78, 79, 80, 81, 82, 83, 84, 85, 86, 87, 88, 89, 90, 91, 92, 93, 94, 95, 96, 97, 98, 99, 100, 101, 102, 103, 104, 105, 106, 107, 108, 109, 110, 111, 112, 113, 114, 115, 116, 117, 118, 119, 120, 121, 122, 123, 124, 125, 126, 127, 128, 129, 130, 131, 132, 133, 134, 135, 136, 137, 138, 139, 140, 141, 142, 143, 144, 145, 146, 147, 148, 149, 150, 151, 152, 153, 154, 155, 156, 157, 158, 159, 160, 161, 162, 163, 164, 165, 166, 167, 168, 169, 170, 171, 172, 173, 174, 175, 176, 177, 178, 179, 180, 181, 182, 183, 184, 185, 186, 187, 188, 189, 190, 191, 192, 193, 194, 195, 196, 197, 198, 199, 200, 201, 202, 203, 204, 205, 206, 207, 208, 209, 210, 211, 212, 213, 214, 215, 216, 217, 218] (fun g => [(7, .p (.int .i64 ((g : Nat) : Int))), (5, accV 0 (c.rows.length + r * cN c + g))]) (fun g => [accB (((cardsL c (c.rows.length + r * cN c + g)).flatMap Bat.cells).map .p) 31 (c.rows.length + r * cN c + g)]) (fun g => g ≤ cN c) (fun g => cN c - g) 0 (Nat.zero_le _) (To.sub (Sub.chk (Sub.cons rfl (Sub.cons rfl (Sub.nil))))) (fun k hh => ?_)
      refine AWp.seq ?_
      refine AWp.seq ?_
      refine AWp.region ?_
      refine AList.c 59 rfl rfl rfl (OpJ.move rfl rfl) ?_
      refine AList.c 60 rfl rfl rfl (OpJ.fieldAddr rfl rfl fd24_1 rfl) ?_
      refine AList.c 61 rfl rfl rfl (OpJ.load (v := .p (.int .i64 c.cols)) rfl rfl ty3 rfl) ?_
      refine AList.c 62 rfl rfl rfl (OpJ.lss rfl rfl rfl) ?_
      refine AList.nil ?_
      refine AWp.cond _ rfl (fun hc2 => ?_) (fun hc2 => ?_)
      · skip
        have hj0 : k < cN c := by have h := of_decide_eq_true hc2; omega
        have hidx : c.rows.length + r * cN c + k < totN c := by have := row_lt hk0 hj0; unfold totN; omega
        have hrp := Nat.pow_le_pow_right (show 0 < 2 by omega) (show r ≤ 8 by omega)
        refine AWp.skip ?_
        refine AWp.seq ?_
        refine AWp.block ?_
        refine AWp.regionDraw 10 mixed (by kernel_rfl) (by decide) ?_
        refine AQuiet.cons 65 rfl rfl rfl (OpJ.move rfl rfl) ?_
        refine AQuiet.cons 66 rfl rfl rfl (OpJ.move rfl rfl) ?_
        refine AQuiet.cons 67 rfl rfl rfl (OpJ.shlN 1 r rfl rfl rfl (by show _ ≤ (64 : Nat); omega) (by show _ ≤ (9223372036854775807 : Int); rw [Nat.one_mul]; omega)) ?_
        refine AQuiet.cons 68 rfl rfl rfl (OpJ.fieldAddr rfl rfl fd24_0 rfl) ?_
        refine AQuiet.cons 69 rfl rfl rfl (OpJ.load (v := .p (intsV c.rows)) rfl rfl ty22 rfl) ?_
        refine AQuiet.cons 70 rfl rfl rfl (OpJ.move rfl rfl) ?_
        refine AQuiet.cons 71 rfl rfl rfl (OpJ.indexG (g := nt c.rows) nt_get rfl rfl rfl sl22 el22 rfl (fun _ => rfl) (by decide) hk0) ?_
        refine AQuiet.cons 72 rfl rfl rfl (OpJ.load (v := .p (.int .i64 (nt c.rows r))) rfl rfl ty3 rfl) ?_
        rw [Nat.one_mul]
        refine AQuiet.cons 73 rfl rfl rfl (OpJ.buildR (v := .p (.agg [.int .i64 ((2 ^ r : Nat) : Int), .int .i64 (nt c.rows r)])) rfl bd31 rfl rfl rfl) ?_
        refine AQuiet.cons 74 rfl rfl rfl (OpJ.buildImm rfl slz29 (by decide) rfl rfl rfl) ?_
        refine AQuiet.nil ?_
        refine AList.c 75 rfl rfl rfl (OpJ.appendAcc rfl rfl rfl slz29 sl29 rfl ?_ rfl (by decide) rfl by31 (by decide) ?_) ?_
        · rw [List.length_map, flat_len (c := 2) (fun _ => rfl), cards_len]; rfl
        · omega
        refine AList.c 5 rfl rfl rfl (OpJ.assign rfl rfl) ?_
        refine AList.nil ?_
        refine AWp.region ?_
        refine AList.c 63 rfl rfl rfl (OpJ.move rfl rfl) ?_
        refine AList.c 64 rfl rfl rfl (OpJ.add rfl rfl rfl (i64ok ?_)) ?_
        · omega
        refine AList.c 7 rfl rfl rfl (OpJ.assign rfl rfl) ?_
        refine AList.nil ?_
        refine ⟨k + 1, ?_, ?_, ?_⟩
        · omega
        · omega
        refine To.done [1] rfl (by repeat (first | exact Sub.nil | refine Sub.cons rfl ?_)) ?_
        show [Blk.row (renL _ (_ ++ _)) _] = [Blk.row _ _]
        rw [renL_app, renL_pure, show cardsL c (c.rows.length + r * cN c + (k + 1)) = cardsL c (c.rows.length + r * cN c + k) ++ [⟨((2 ^ r : Nat) : Int), nt c.rows r⟩] from by rw [← card_at hj0]; exact cards_S c _, List.flatMap_append, List.map_append]
        rfl
      · skip
        obtain rfl : k = cN c := by have h := of_decide_eq_false hc2; omega
        rw [show c.rows.length + r * cN c + cN c = c.rows.length + (r + 1) * cN c by rw [Nat.add_mul]; omega]
        refine AWp.exit ?_
        refine AWp.region ?_
        refine AList.c 57 rfl rfl rfl (OpJ.move rfl rfl) ?_
        refine AList.c 58 rfl rfl rfl (OpJ.add rfl rfl rfl (i64ok ?_)) ?_
        · omega
        refine AList.c 6 rfl rfl rfl (OpJ.assign rfl rfl) ?_
        refine AList.nil ?_
        refine ⟨r + 1, ?_, ?_, ?_⟩
        · omega
        · omega
        exact To.sub (Sub.cons rfl (Sub.cons rfl (by repeat (first | exact Sub.nil | refine Sub.cons rfl ?_))))
    · skip
      obtain rfl : r = c.rows.length := by have h := of_decide_eq_false hc1; omega
      refine AWp.to (To.accD 5 0 (c.rows.length + c.rows.length * cN c) rfl rfl (fun h => absurd h (by omega))) ?_
      rw [show PV.is ((cardsL c (c.rows.length + c.rows.length * cN c)).flatMap Bat.cells) (c.rows.length + c.rows.length * cN c) = batV (crds c) from by unfold batV; rw [crds_len]; rfl]
      refine AWp.exit ?_
      refine AWp.seq ?_
      refine AWp.region ?_
      refine AList.c 8 rfl rfl rfl (OpJ.assign rfl rfl) ?_
      refine AList.c 9 rfl rfl rfl (OpJ.assign rfl rfl) ?_
      refine AList.nil ?_
      refine AWp.seq ?_
      refine AWp.seq ?_
      refine AWp.region ?_
      refine AList.c 10 rfl rfl rfl (OpJ.assign rfl rfl) ?_
      refine AList.nil ?_
      refine AWp.block ?_
      refine AWp.loopKL [1, 2, 4, 5, 12, 13, 14, 15, 16, 17, 19, 20, 119, 120, 121, 122, 123, 124, 125, 126, 127, 128, 129, 130, 131, 132, 133, 134, 135, 136, 137, 138, 139, 140, 141, 142, 143, 144, 145, 146, 147, 148, 149, 150, 151, 152, 153, 154, 155, 156, 157, 158, 159, 160, 161, 162, 163, 164, 165, 166, 167, 168, 169, 170, 171, 172, 173, 174, 175, 176, 177, 178, 179, 180, 181, 182, 183, 184, 185, 186, 187, 188, 189, 190, 191, 192, 193, 194, 195, 196, 197, 198, 199, 200, 201, 202, 203, 204, 205, 206, 207, 208, 209, 210, 211, 212, 213, 214, 215, 216, 217, 218] (fun g => [(10, .p (.int .i64 ((g : Nat) : Int))), (8, .p (.int .i64 ((seenF c 1 l g : Nat) : Int))), (9, .p (.int .i64 ((seenF c 0 l g : Nat) : Int)))]) (fun g => g ≤ l.length) (fun g => l.length - g) 0 (Nat.zero_le _) (Sub.cons rfl (Sub.cons rfl (Sub.cons rfl (Sub.nil)))) (fun i hi => ?_)
      refine AWp.seq ?_
      refine AWp.seq ?_
      refine AWp.region ?_
      refine AList.c 76 rfl rfl rfl (OpJ.move rfl rfl) ?_
      refine AList.c 77 rfl rfl rfl (OpJ.move rfl rfl) ?_
      refine AList.c 78 rfl rfl rfl (OpJ.lenSlice rfl rfl sl25 rfl) ?_
      refine AList.c 79 rfl rfl rfl (OpJ.lss rfl rfl rfl) ?_
      refine AList.nil ?_
      refine AWp.cond _ rfl (fun hc3 => ?_) (fun hc3 => ?_)
      · skip
        have hi0 : i < l.length := by have h := of_decide_eq_true hc3; omega
        obtain ⟨hv1, hv2, hv3, hv4, hv5, hv6⟩ := fit_l F (lkt_mem hi0)
        obtain ⟨hp1, hp2⟩ := pl_lt F (lkt_mem hi0)
        have hpe : plN c (lkt l i) = c.rows.length + (lkt l i).r.toNat * cN c + (lkt l i).c.toNat := rfl
        have hme : (lkt l i).r * c.cols = (((lkt l i).r.toNat * cN c : Nat) : Int) := by rw [Int.natCast_mul, Int.toNat_of_nonneg hv3, ← hCe]
        have hpp := Nat.pow_lt_pow_right (show 1 < 2 by omega) (show plN c (lkt l i) < 24 by omega)
        have hs1 := Nat.lt_of_lt_of_le (seenF_lt F 1 i (by omega)) (Nat.pow_le_pow_right (show 0 < 2 by omega) hsz)
        have hs0 := Nat.lt_of_lt_of_le (seenF_lt F 0 i (by omega)) (Nat.pow_le_pow_right (show 0 < 2 by omega) hsz)
        have ho1 : seenF c 1 l i ||| 1 * 2 ^ plN c (lkt l i) < 2 ^ 24 := Nat.or_lt_two_pow hs1 (by rw [Nat.one_mul]; exact hpp)
        have ho0 : seenF c 0 l i ||| 1 * 2 ^ plN c (lkt l i) < 2 ^ 24 := Nat.or_lt_two_pow hs0 (by rw [Nat.one_mul]; exact hpp)
        refine AWp.skip ?_
        refine AWp.seq ?_
        refine AWp.block ?_
        refine AWp.seq ?_
        refine AWp.regionDraw 20 mixed (by kernel_rfl) (by decide) ?_
        refine AQuiet.cons 82 rfl rfl rfl (OpJ.fieldAddr rfl rfl fd24_0 rfl) ?_
        refine AQuiet.cons 83 rfl rfl rfl (OpJ.load (v := .p (intsV c.rows)) rfl rfl ty22 rfl) ?_
        refine AQuiet.cons 84 rfl rfl rfl (OpJ.lenSlice rfl rfl sl22 rfl) ?_
        refine AQuiet.cons 85 rfl rfl rfl (OpJ.move rfl rfl) ?_
        refine AQuiet.cons 86 rfl rfl rfl (OpJ.move rfl rfl) ?_
        refine AQuiet.cons 87 rfl rfl rfl (OpJ.indexG (g := lkt l) lkt_get rfl rfl rfl sl25 el25 rfl (fun _ => rfl) (by decide) hi0) ?_
        refine AQuiet.cons 88 rfl rfl rfl (OpJ.fieldAddr rfl rfl fd33_0 rfl) ?_
        refine AQuiet.cons 89 rfl rfl rfl (OpJ.load (v := .p (.int .i64 (lkt l i).r)) rfl rfl ty3 rfl) ?_
        refine AQuiet.cons 90 rfl rfl rfl (OpJ.fieldAddr rfl rfl fd24_1 rfl) ?_
        refine AQuiet.cons 91 rfl rfl rfl (OpJ.load (v := .p (.int .i64 c.cols)) rfl rfl ty3 rfl) ?_
        refine AQuiet.cons 92 rfl rfl rfl (OpJ.mul (m := (((lkt l i).r.toNat * cN c : Nat) : Int)) rfl rfl rfl ((i64ok ?_).trans ?_)) ?_
        · rw [hme]; omega
        · exact hme
        refine AQuiet.cons 93 rfl rfl rfl (OpJ.add (m := ((c.rows.length + (lkt l i).r.toNat * cN c : Nat) : Int)) rfl rfl rfl ((i64ok ?_).trans ?_)) ?_
        · omega
        · rfl
        refine AQuiet.cons 94 rfl rfl rfl (OpJ.move rfl rfl) ?_
        refine AQuiet.cons 95 rfl rfl rfl (OpJ.move rfl rfl) ?_
        refine AQuiet.cons 96 rfl rfl rfl (OpJ.indexG (g := lkt l) lkt_get rfl rfl rfl sl25 el25 rfl (fun _ => rfl) (by decide) hi0) ?_
        refine AQuiet.cons 97 rfl rfl rfl (OpJ.fieldAddr rfl rfl fd33_1 rfl) ?_
        refine AQuiet.cons 98 rfl rfl rfl (OpJ.load (v := .p (.int .i64 (lkt l i).c)) rfl rfl ty3 rfl) ?_
        refine AQuiet.cons 99 rfl rfl rfl (OpJ.add (m := ((plN c (lkt l i) : Nat) : Int)) rfl rfl rfl ((i64ok ?_).trans ?_)) ?_
        · omega
        · omega
        refine AQuiet.cons 100 rfl rfl rfl (OpJ.shlN 1 (plN c (lkt l i)) rfl rfl rfl (by show _ ≤ (64 : Nat); omega) (by show _ ≤ (9223372036854775807 : Int); rw [Nat.one_mul]; omega)) ?_
        refine AQuiet.cons 11 rfl rfl rfl (OpJ.assign rfl rfl) ?_
        refine AQuiet.nil ?_
        refine AList.nil ?_
        refine AWp.seq ?_
        refine AWp.seq ?_
        refine AWp.region ?_
        refine AList.c 101 rfl rfl rfl (OpJ.move rfl rfl) ?_
        refine AList.c 102 rfl rfl rfl (OpJ.move rfl rfl) ?_
        refine AList.c 103 rfl rfl rfl (OpJ.indexG (g := lkt l) lkt_get rfl rfl rfl sl25 el25 rfl (fun _ => rfl) (by decide) hi0) ?_
        refine AList.c 104 rfl rfl rfl (OpJ.fieldAddr rfl rfl fd33_2 rfl) ?_
        refine AList.c 105 rfl rfl rfl (OpJ.load (v := .p (.int .i64 (lkt l i).s)) rfl rfl ty3 rfl) ?_
        refine AList.c 106 rfl rfl rfl (OpJ.eql rfl rfl rfl) ?_
        refine AList.nil ?_
        refine AWp.cond _ rfl (fun hc4 => ?_) (fun hc4 => ?_)
        · skip
          have hst1 : seenF c 1 l (i + 1) = seenF c 1 l i ||| 1 * 2 ^ plN c (lkt l i) := by rw [seenF, if_pos (of_decide_eq_true hc4), Nat.one_mul]
          refine AWp.region ?_
          refine AList.c 107 rfl rfl rfl (OpJ.move rfl rfl) ?_
          refine AList.c 108 rfl rfl rfl (OpJ.move rfl rfl) ?_
          refine AList.c 109 rfl rfl rfl (OpJ.orN (seenF c 1 l i) (1 * 2 ^ plN c (lkt l i)) rfl rfl rfl (by show _ ≤ (9223372036854775807 : Int); omega) (by show _ ≤ (9223372036854775807 : Int); rw [Nat.one_mul]; omega) (by show _ ≤ (9223372036854775807 : Int); omega)) ?_
          refine AList.c 8 rfl rfl rfl (OpJ.assign rfl rfl) ?_
          refine AList.nil ?_
          refine AWp.seq ?_
          refine AWp.region ?_
          refine AList.c 110 rfl rfl rfl (OpJ.move rfl rfl) ?_
          refine AList.c 111 rfl rfl rfl (OpJ.move rfl rfl) ?_
          refine AList.c 112 rfl rfl rfl (OpJ.indexG (g := lkt l) lkt_get rfl rfl rfl sl25 el25 rfl (fun _ => rfl) (by decide) hi0) ?_
          refine AList.c 113 rfl rfl rfl (OpJ.fieldAddr rfl rfl fd33_2 rfl) ?_
          refine AList.c 114 rfl rfl rfl (OpJ.load (v := .p (.int .i64 (lkt l i).s)) rfl rfl ty3 rfl) ?_
          refine AList.c 115 rfl rfl rfl (OpJ.eql rfl rfl rfl) ?_
          refine AList.nil ?_
          refine AWp.cond _ rfl (fun hc5 => ?_) (fun hc5 => ?_)
          · skip
            have hst0 : seenF c 0 l (i + 1) = seenF c 0 l i ||| 1 * 2 ^ plN c (lkt l i) := by rw [seenF, if_pos (of_decide_eq_true hc5), Nat.one_mul]
            refine AWp.region ?_
            refine AList.c 116 rfl rfl rfl (OpJ.move rfl rfl) ?_
            refine AList.c 117 rfl rfl rfl (OpJ.move rfl rfl) ?_
            refine AList.c 118 rfl rfl rfl (OpJ.orN (seenF c 0 l i) (1 * 2 ^ plN c (lkt l i)) rfl rfl rfl (by show _ ≤ (9223372036854775807 : Int); omega) (by show _ ≤ (9223372036854775807 : Int); rw [Nat.one_mul]; omega) (by show _ ≤ (9223372036854775807 : Int); omega)) ?_
            refine AList.c 9 rfl rfl rfl (OpJ.assign rfl rfl) ?_
            refine AList.nil ?_
            refine AWp.region ?_
            refine AList.c 80 rfl rfl rfl (OpJ.move rfl rfl) ?_
            refine AList.c 81 rfl rfl rfl (OpJ.add rfl rfl rfl (i64ok ?_)) ?_
            · omega
            refine AList.c 10 rfl rfl rfl (OpJ.assign rfl rfl) ?_
            refine AList.nil ?_
            refine ⟨i + 1, ?_, ?_, ?_⟩
            · omega
            · omega
            refine To.sub (Sub.cons rfl (Sub.cons (by rw [hst1]; rfl) (Sub.cons (by rw [hst0]; rfl) (by repeat (first | exact Sub.nil | refine Sub.cons rfl ?_)))))
          · skip
            have hst0 : seenF c 0 l (i + 1) = seenF c 0 l i := by rw [seenF, if_neg (of_decide_eq_false hc5)]
            refine AWp.skip ?_
            refine AWp.region ?_
            refine AList.c 80 rfl rfl rfl (OpJ.move rfl rfl) ?_
            refine AList.c 81 rfl rfl rfl (OpJ.add rfl rfl rfl (i64ok ?_)) ?_
            · omega
            refine AList.c 10 rfl rfl rfl (OpJ.assign rfl rfl) ?_
            refine AList.nil ?_
            refine ⟨i + 1, ?_, ?_, ?_⟩
            · omega
            · omega
            refine To.sub (Sub.cons rfl (Sub.cons (by rw [hst1]; rfl) (Sub.cons (by rw [hst0]; rfl) (by repeat (first | exact Sub.nil | refine Sub.cons rfl ?_)))))
        · skip
          have hst1 : seenF c 1 l (i + 1) = seenF c 1 l i := by rw [seenF, if_neg (of_decide_eq_false hc4)]
          refine AWp.skip ?_
          refine AWp.seq ?_
          refine AWp.region ?_
          refine AList.c 110 rfl rfl rfl (OpJ.move rfl rfl) ?_
          refine AList.c 111 rfl rfl rfl (OpJ.move rfl rfl) ?_
          refine AList.c 112 rfl rfl rfl (OpJ.indexG (g := lkt l) lkt_get rfl rfl rfl sl25 el25 rfl (fun _ => rfl) (by decide) hi0) ?_
          refine AList.c 113 rfl rfl rfl (OpJ.fieldAddr rfl rfl fd33_2 rfl) ?_
          refine AList.c 114 rfl rfl rfl (OpJ.load (v := .p (.int .i64 (lkt l i).s)) rfl rfl ty3 rfl) ?_
          refine AList.c 115 rfl rfl rfl (OpJ.eql rfl rfl rfl) ?_
          refine AList.nil ?_
          refine AWp.cond _ rfl (fun hc5 => ?_) (fun hc5 => ?_)
          · skip
            have hst0 : seenF c 0 l (i + 1) = seenF c 0 l i ||| 1 * 2 ^ plN c (lkt l i) := by rw [seenF, if_pos (of_decide_eq_true hc5), Nat.one_mul]
            refine AWp.region ?_
            refine AList.c 116 rfl rfl rfl (OpJ.move rfl rfl) ?_
            refine AList.c 117 rfl rfl rfl (OpJ.move rfl rfl) ?_
            refine AList.c 118 rfl rfl rfl (OpJ.orN (seenF c 0 l i) (1 * 2 ^ plN c (lkt l i)) rfl rfl rfl (by show _ ≤ (9223372036854775807 : Int); omega) (by show _ ≤ (9223372036854775807 : Int); rw [Nat.one_mul]; omega) (by show _ ≤ (9223372036854775807 : Int); omega)) ?_
            refine AList.c 9 rfl rfl rfl (OpJ.assign rfl rfl) ?_
            refine AList.nil ?_
            refine AWp.region ?_
            refine AList.c 80 rfl rfl rfl (OpJ.move rfl rfl) ?_
            refine AList.c 81 rfl rfl rfl (OpJ.add rfl rfl rfl (i64ok ?_)) ?_
            · omega
            refine AList.c 10 rfl rfl rfl (OpJ.assign rfl rfl) ?_
            refine AList.nil ?_
            refine ⟨i + 1, ?_, ?_, ?_⟩
            · omega
            · omega
            refine To.sub (Sub.cons rfl (Sub.cons (by rw [hst1]; rfl) (Sub.cons (by rw [hst0]; rfl) (by repeat (first | exact Sub.nil | refine Sub.cons rfl ?_)))))
          · skip
            have hst0 : seenF c 0 l (i + 1) = seenF c 0 l i := by rw [seenF, if_neg (of_decide_eq_false hc5)]
            refine AWp.skip ?_
            refine AWp.region ?_
            refine AList.c 80 rfl rfl rfl (OpJ.move rfl rfl) ?_
            refine AList.c 81 rfl rfl rfl (OpJ.add rfl rfl rfl (i64ok ?_)) ?_
            · omega
            refine AList.c 10 rfl rfl rfl (OpJ.assign rfl rfl) ?_
            refine AList.nil ?_
            refine ⟨i + 1, ?_, ?_, ?_⟩
            · omega
            · omega
            refine To.sub (Sub.cons rfl (Sub.cons (by rw [hst1]; rfl) (Sub.cons (by rw [hst0]; rfl) (by repeat (first | exact Sub.nil | refine Sub.cons rfl ?_)))))
      · skip
        obtain rfl : i = l.length := by have h := of_decide_eq_false hc3; omega
        rw [show seenF c 1 l l.length = bdN c l from rfl, show seenF c 0 l l.length = gdN c l from rfl]
        have hbd : bdN c l < 2 ^ 24 := Nat.lt_of_lt_of_le (seenF_lt F 1 l.length (Nat.le_refl _)) (Nat.pow_le_pow_right (show 0 < 2 by omega) hsz)
        have hgd : gdN c l < 2 ^ 24 := Nat.lt_of_lt_of_le (seenF_lt F 0 l.length (Nat.le_refl _)) (Nat.pow_le_pow_right (show 0 < 2 by omega) hsz)
        refine AWp.exit ?_
        refine AWp.seq ?_
        refine AWp.norm [] [(1, _), (2, _), (5, _), (8, _), (9, _)] [] rfl (by repeat (first | exact Sub.nil | refine Sub.cons rfl ?_)) rfl ?_
        refine AWp.region ?_
        refine AList.c 120 rfl rfl rfl (OpJ.load (v := .p (crV (topC c))) rfl rfl ty24 rfl) ?_
        refine AList.c 121 rfl rfl rfl (OpJ.move rfl rfl) ?_
        refine AList.c 122 rfl rfl rfl (OpJ.callP (causes_ok (topC c) l hb hbl) rfl rfl rfl rfl rf8) ?_
        rw [fou_eq F hl40, op_eq F hl40]
        refine AList.c 119 rfl rfl rfl (OpJ.move rfl rfl) ?_
        refine AList.c 123 rfl rfl rfl (OpJ.extract rfl rfl rfl) ?_
        refine AList.c 124 rfl rfl rfl (OpJ.extract rfl rfl rfl) ?_
        refine AList.c 12 rfl rfl rfl (OpJ.allocOwn rfl zr35 rfl) ?_
        refine AList.c0 rfl rfl (OpJ.store rfl rfl rfl rfl rfl ty35 rfl rfl) ?_
        refine AList.c 13 rfl rfl rfl (OpJ.assign rfl rfl) ?_
        refine AList.nil ?_
        refine AWp.seq ?_
        refine AWp.region ?_
        refine AList.c 126 rfl rfl rfl (OpJ.load (v := .p (crV (topC c))) rfl rfl ty24 rfl) ?_
        refine AList.c 127 rfl rfl rfl (OpJ.move rfl rfl) ?_
        refine AList.c 128 rfl rfl rfl (OpJ.callP (count_ok (topC c) l hb hbl) rfl rfl rfl rfl rf9) ?_
        rw [cnt_eq F hl40, op_eq F hl40]
        refine AList.c 125 rfl rfl rfl (OpJ.move rfl rfl) ?_
        refine AList.c 129 rfl rfl rfl (OpJ.extract rfl rfl rfl) ?_
        refine AList.c 130 rfl rfl rfl (OpJ.extract rfl rfl rfl) ?_
        refine AList.c 14 rfl rfl rfl (OpJ.allocOwn rfl zr40 rfl) ?_
        refine AList.c0 rfl rfl (OpJ.store rfl rfl rfl rfl rfl ty40 rfl rfl) ?_
        refine AList.c 15 rfl rfl rfl (OpJ.assign rfl rfl) ?_
        refine AList.nil ?_
        refine AWp.seq ?_
        refine AWp.region ?_
        refine AList.c 132 rfl rfl rfl (OpJ.move rfl rfl) ?_
        refine AList.c 133 rfl rfl rfl (OpJ.move rfl rfl) ?_
        refine AList.c 134 rfl rfl rfl (OpJ.move rfl rfl) ?_
        refine AList.c 135 rfl rfl rfl (OpJ.callP (Blame_ok (crds c) (bdN c l) (gdN c l) hbb) rfl rfl rfl rfl rf10) ?_
        refine AList.c 131 rfl rfl rfl (OpJ.move rfl rfl) ?_
        refine AList.c 136 rfl rfl rfl (OpJ.extract rfl rfl rfl) ?_
        refine AList.c 137 rfl rfl rfl (OpJ.extract rfl rfl rfl) ?_
        refine AList.c 16 rfl rfl rfl (OpJ.assign rfl rfl) ?_
        refine AList.c 17 rfl rfl rfl (OpJ.assign rfl rfl) ?_
        refine AList.nil ?_
        refine AWp.seq ?_
        refine AWp.region ?_
        refine AList.c 139 rfl rfl rfl (OpJ.move rfl rfl) ?_
        refine AList.c 140 rfl rfl rfl (OpJ.move rfl rfl) ?_
        refine AList.c 141 rfl rfl rfl (OpJ.move rfl rfl) ?_
        refine AList.c 142 rfl rfl rfl (OpJ.callP (Recall_ok (crds c) (bdN c l) (gdN c l) hbb) rfl rfl rfl rfl rf11) ?_
        refine AList.c 138 rfl rfl rfl (OpJ.move rfl rfl) ?_
        refine AList.c 143 rfl rfl rfl (OpJ.extract rfl rfl rfl) ?_
        refine AList.c 144 rfl rfl rfl (OpJ.extract rfl rfl rfl) ?_
        refine AList.c 145 rfl rfl rfl (OpJ.extract rfl rfl rfl) ?_
        refine AList.c 19 rfl rfl rfl (OpJ.allocOwn rfl zr40 rfl) ?_
        refine AList.c 18 rfl rfl rfl (OpJ.assign rfl rfl) ?_
        refine AList.c0 rfl rfl (OpJ.store rfl rfl rfl rfl rfl ty40 rfl rfl) ?_
        refine AList.c 20 rfl rfl rfl (OpJ.assign rfl rfl) ?_
        refine AList.nil ?_
        refine AWp.seq ?_
        refine AWp.seq ?_
        refine AWp.region ?_
        refine AList.c 146 rfl rfl rfl (OpJ.move rfl rfl) ?_
        refine AList.c 147 rfl rfl rfl (OpJ.eql rfl rfl rfl) ?_
        refine AList.nil ?_
        refine AWp.cond _ rfl (fun hc6 => ?_) (fun hc6 => ?_)
        · skip
          have hz : bdN c l = 0 := by have h := of_decide_eq_true hc6; omega
          refine AWp.seq ?_
          refine AWp.region ?_
          refine AList.c 148 rfl rfl rfl (OpJ.move rfl rfl) ?_
          refine AList.c 149 rfl rfl rfl (OpJ.eql rfl rfl rfl) ?_
          refine AList.c 150 rfl rfl rfl (OpJ.move rfl rfl) ?_
          refine AList.g 151 150 rfl rfl rfl rfl rfl rfl rfl [(15, _)] (fun h => And.intro (.inl rfl) (trivial)) (fun h => (OpJ.move rfl rfl)) ?_
          refine AList.g 152 150 rfl rfl rfl rfl rfl rfl rfl [(151, _)] (fun h => And.intro (.inr ⟨_, rfl, h⟩) (trivial)) (fun h => (OpJ.eql rfl rfl rfl)) ?_
          refine AList.c 153 rfl rfl rfl (OpJ.and_ rfl rfl rfl ?_) ?_
          · first | (intro h; rw [h]; rfl) | (intro h; simp_all)
          refine AList.c 154 rfl rfl rfl (OpJ.move rfl rfl) ?_
          refine AList.g 155 154 rfl rfl rfl rfl rfl rfl rfl [(17, _)] (fun h => And.intro (.inl rfl) (trivial)) (fun h => (OpJ.move rfl rfl)) ?_
          refine AList.g 156 154 rfl rfl rfl rfl rfl rfl rfl [(155, _)] (fun h => And.intro (.inr ⟨_, rfl, h⟩) (trivial)) (fun h => (OpJ.eql rfl rfl rfl)) ?_
          refine AList.c 157 rfl rfl rfl (OpJ.and_ rfl rfl rfl ?_) ?_
          · first | (intro h; rw [h]; rfl) | (intro h; simp_all)
          refine AList.c 158 rfl rfl rfl (OpJ.move rfl rfl) ?_
          refine AList.g 159 158 rfl rfl rfl rfl rfl rfl rfl [(20, _)] (fun h => And.intro (.inl rfl) (trivial)) (fun h => (OpJ.move rfl rfl)) ?_
          refine AList.g 160 158 rfl rfl rfl rfl rfl rfl rfl [(17, _)] (fun h => And.intro (.inl rfl) (trivial)) (fun h => (OpJ.move rfl rfl)) ?_
          refine AList.g 161 158 rfl rfl rfl rfl rfl rfl rfl [(159, _), (160, _)] (fun h => And.intro (.inr ⟨_, rfl, h⟩) (And.intro (.inr ⟨_, rfl, h⟩) (trivial))) (fun h => (OpJ.eql rfl rfl rfl)) ?_
          refine AList.c 162 rfl rfl rfl (OpJ.and_ rfl rfl rfl ?_) ?_
          · first | (intro h; rw [h]; rfl) | (intro h; simp_all)
          refine AList.c 163 rfl rfl rfl (OpJ.move rfl rfl) ?_
          refine AList.g 164 163 rfl rfl rfl rfl rfl rfl rfl [] (fun h => trivial) (fun h => (OpJ.callP (awake11_ok) rfl rfl rfl rfl rf7)) ?_
          refine AList.c 165 rfl rfl rfl (OpJ.and_ rfl rfl rfl ?_) ?_
          · first | (intro h; rw [h]; rfl) | (intro h; simp_all)
          refine AList.c 4 rfl rfl rfl (OpJ.assign rfl rfl) ?_
          refine AList.nil ?_
          refine AWp.ret ?_
          refine Fin.oneE rfl rfl ?_
          obtain ⟨e1, e2⟩ := law_zero F hz
          simp [e1, e2]
        · skip
          have hz : bdN c l ≠ 0 := by have h := of_decide_eq_false hc6; omega
          have hand := law_and F hz
          have hbr : blR (crds c) (bdN c l : Int) (gdN c l : Int) < 2 ^ 24 := by
            unfold blR
            split
            · have h1 := blame_lt (crds c) (bdN c l) (gdN c l)
              rw [crds_len] at h1
              exact Nat.lt_of_lt_of_le h1 (Nat.pow_le_pow_right (by omega) hsz)
            · omega
          have hRp := Nat.pow_le_pow_right (show 0 < 2 by omega) (show c.rows.length ≤ 8 by omega)
          have hRq := Nat.two_pow_pos c.rows.length
          refine AWp.skip ?_
          refine AWp.seq ?_
          refine AWp.seq ?_
          refine AWp.regionDraw 28 mixed (by kernel_rfl) (by decide) ?_
          refine AQuiet.cons 166 rfl rfl rfl (OpJ.move rfl rfl) ?_
          refine AQuiet.cons 167 rfl rfl rfl (OpJ.move rfl rfl) ?_
          refine AQuiet.cons 168 rfl rfl rfl (OpJ.neq rfl rfl rfl) ?_
          refine AQuiet.cons 169 rfl rfl rfl (OpJ.move rfl rfl) ?_
          refine AQuiet.guard 170 169 rfl rfl rfl rfl rfl rfl rfl [(13, _)] (fun h => And.intro (.inl rfl) (trivial)) (fun h => (OpJ.move rfl rfl)) ?_
          refine AQuiet.guard 171 169 rfl rfl rfl rfl rfl rfl rfl [(170, _)] (fun h => And.intro (.inr ⟨_, rfl, h⟩) (trivial)) (fun h => (OpJ.neq rfl rfl rfl)) ?_
          refine AQuiet.guard 172 169 rfl rfl rfl rfl rfl rfl rfl [(171, _)] (fun h => And.intro (.inr ⟨_, rfl, h⟩) (trivial)) (fun h => (OpJ.move rfl rfl)) ?_
          refine AQuiet.guard 173 172 rfl rfl rfl rfl rfl rfl rfl [(13, _)] (fun h => And.intro (.inl rfl) (trivial)) (fun h => (OpJ.move rfl rfl)) ?_
          refine AQuiet.guard 174 172 rfl rfl rfl rfl rfl rfl rfl [(173, _)] (fun h => And.intro (.inr ⟨_, rfl, h⟩) (trivial)) (fun h => (OpJ.neq rfl rfl rfl)) ?_
          refine AQuiet.guard 175 169 rfl rfl rfl rfl rfl rfl rfl [(172, _), (174, _)] (fun h => And.intro (.inr ⟨_, rfl, h⟩) (And.intro (.inl rfl) (trivial))) (fun h => (OpJ.and_ rfl rfl rfl ?_)) ?_
          · first | (intro h; rw [h]; rfl) | (intro h; simp_all)
          refine AQuiet.cons 176 rfl rfl rfl (OpJ.or_ rfl rfl rfl ?_) ?_
          · first | (intro h; rw [h]; rfl) | (intro h; simp_all)
          refine AQuiet.cons 177 rfl rfl rfl (OpJ.move rfl rfl) ?_
          refine AQuiet.guard 178 177 rfl rfl rfl rfl rfl rfl rfl [(17, _)] (fun h => And.intro (.inl rfl) (trivial)) (fun h => (OpJ.move rfl rfl)) ?_
          refine AQuiet.guard 179 177 rfl rfl rfl rfl rfl rfl rfl [(20, _)] (fun h => And.intro (.inl rfl) (trivial)) (fun h => (OpJ.move rfl rfl)) ?_
          refine AQuiet.guard 180 177 rfl rfl rfl rfl rfl rfl rfl [(178, _), (179, _)] (fun h => And.intro (.inr ⟨_, rfl, h⟩) (And.intro (.inr ⟨_, rfl, h⟩) (trivial))) (fun h => (OpJ.neq rfl rfl rfl)) ?_
          refine AQuiet.cons 181 rfl rfl rfl (OpJ.or_ rfl rfl rfl ?_) ?_
          · first | (intro h; rw [h]; rfl) | (intro h; simp_all)
          refine AQuiet.cons 182 rfl rfl rfl (OpJ.move rfl rfl) ?_
          refine AQuiet.guard 183 182 rfl rfl rfl rfl rfl rfl rfl [(16, _)] (fun h => And.intro (.inl rfl) (trivial)) (fun h => (OpJ.move rfl rfl)) ?_
          refine AQuiet.guard 184 182 rfl rfl rfl rfl rfl rfl rfl [(2, _)] (fun h => And.intro (.inl rfl) (trivial)) (fun h => (OpJ.fieldAddr rfl rfl fd24_0 rfl)) ?_
          refine AQuiet.guard 185 182 rfl rfl rfl rfl rfl rfl rfl [(184, _)] (fun h => And.intro (.inr ⟨_, rfl, h⟩) (trivial)) (fun h => (OpJ.load (v := .p (intsV c.rows)) rfl rfl ty22 rfl)) ?_
          refine AQuiet.guard 186 182 rfl rfl rfl rfl rfl rfl rfl [(185, _)] (fun h => And.intro (.inr ⟨_, rfl, h⟩) (trivial)) (fun h => (OpJ.lenSlice rfl rfl sl22 rfl)) ?_
          refine AQuiet.guard 187 182 rfl rfl rfl rfl rfl rfl rfl [(186, _)] (fun h => And.intro (.inr ⟨_, rfl, h⟩) (trivial)) (fun h => (OpJ.shlN 1 c.rows.length rfl rfl rfl (by show _ ≤ (64 : Nat); omega) (by show _ ≤ (9223372036854775807 : Int); rw [Nat.one_mul]; omega))) ?_
          refine AQuiet.guard 188 182 rfl rfl rfl rfl rfl rfl rfl [(187, _)] (fun h => And.intro (.inr ⟨_, rfl, h⟩) (trivial)) (fun h => (OpJ.sub_ (m := ((2 ^ c.rows.length - 1 : Nat) : Int)) rfl rfl rfl ((i64ok (by rw [Nat.one_mul]; omega)).trans (by rw [Nat.one_mul]; omega)))) ?_
          refine AQuiet.guard 189 182 rfl rfl rfl rfl rfl rfl rfl [(183, _), (188, _)] (fun h => And.intro (.inr ⟨_, rfl, h⟩) (And.intro (.inr ⟨_, rfl, h⟩) (trivial))) (fun h => (OpJ.andN (blR (crds c) (bdN c l : Int) (gdN c l : Int)) (2 ^ c.rows.length - 1) rfl rfl rfl (by first | (show _ ≤ (9223372036854775807 : Int); omega) | (show _ ≤ (4294967295 : Int); omega) | (show _ ≤ (18446744073709551615 : Int); omega)) (by first | decide | (show _ ≤ (9223372036854775807 : Int); omega) | (show _ ≤ (4294967295 : Int); omega) | (show _ ≤ (18446744073709551615 : Int); omega)))) ?_
          refine AQuiet.guard 190 182 rfl rfl rfl rfl rfl rfl rfl [(12, _)] (fun h => And.intro (.inl rfl) (trivial)) (fun h => (OpJ.fieldAddr rfl rfl fd35_0 rfl)) ?_
          refine AQuiet.guard 191 182 rfl rfl rfl rfl rfl rfl rfl [(190, _)] (fun h => And.intro (.inr ⟨_, rfl, h⟩) (trivial)) (fun h => (OpJ.load (v := .p (.int .i64 (((if opT c l = 0 then (picF (topC c) (truL (topC c) l)).cr else 0) : Nat) : Int))) rfl rfl ty3 rfl)) ?_
          refine AQuiet.guard 192 182 rfl rfl rfl rfl rfl rfl rfl [(189, _), (191, _)] (fun h => And.intro (.inr ⟨_, rfl, h⟩) (And.intro (.inr ⟨_, rfl, h⟩) (trivial))) (fun h => (OpJ.neq rfl rfl rfl)) ?_
          refine AQuiet.cons 193 rfl rfl rfl (OpJ.or_ rfl rfl rfl ?_) ?_
          · first | (intro h; rw [h]; rfl) | (intro h; simp_all)
          refine AQuiet.nil ?_
          refine AList.nil ?_
          refine AWp.cond _ rfl (fun hc7 => ?_) (fun hc7 => ?_)
          · skip
            exfalso
            rw [hand] at hc7
            rcases op_06 c l with h | h <;> simp [h] at hc7
          · skip
            refine AWp.skip ?_
            refine AWp.seq ?_
            refine AWp.seq ?_
            refine AWp.region ?_
            refine AList.c 194 rfl rfl rfl (OpJ.move rfl rfl) ?_
            refine AList.c 195 rfl rfl rfl (OpJ.move rfl rfl) ?_
            refine AList.c 196 rfl rfl rfl (OpJ.sub_ (m := ((bdN c l - 1 : Nat) : Int)) rfl rfl rfl ((i64ok ?_).trans ?_)) ?_
            · omega
            · omega
            refine AList.c 197 rfl rfl rfl (OpJ.andN (bdN c l) (bdN c l - 1) rfl rfl rfl (by first | (show _ ≤ (9223372036854775807 : Int); omega) | (show _ ≤ (4294967295 : Int); omega) | (show _ ≤ (18446744073709551615 : Int); omega)) (by first | decide | (show _ ≤ (9223372036854775807 : Int); omega) | (show _ ≤ (4294967295 : Int); omega) | (show _ ≤ (18446744073709551615 : Int); omega))) ?_
            refine AList.c 198 rfl rfl rfl (OpJ.eql rfl rfl rfl) ?_
            refine AList.nil ?_
            refine AWp.cond _ rfl (fun hc8 => ?_) (fun hc8 => ?_)
            · skip
              refine AWp.seq ?_
              refine AWp.region ?_
              refine AList.c 199 rfl rfl rfl (OpJ.move rfl rfl) ?_
              refine AList.c 200 rfl rfl rfl (OpJ.neq rfl rfl rfl) ?_
              refine AList.c 201 rfl rfl rfl (OpJ.move rfl rfl) ?_
              refine AList.g 202 201 rfl rfl rfl rfl rfl rfl rfl [(17, _)] (fun h => And.intro (.inl rfl) (trivial)) (fun h => (OpJ.move rfl rfl)) ?_
              refine AList.g 203 201 rfl rfl rfl rfl rfl rfl rfl [(202, _)] (fun h => And.intro (.inr ⟨_, rfl, h⟩) (trivial)) (fun h => (OpJ.eql rfl rfl rfl)) ?_
              refine AList.c 204 rfl rfl rfl (OpJ.or_ rfl rfl rfl ?_) ?_
              · first | (intro h; rw [h]; rfl) | (intro h; simp_all)
              refine AList.c 205 rfl rfl rfl (OpJ.move rfl rfl) ?_
              refine AList.g 206 205 rfl rfl rfl rfl rfl rfl rfl [] (fun h => trivial) (fun h => (OpJ.callP (awake11_ok) rfl rfl rfl rfl rf7)) ?_
              refine AList.c 207 rfl rfl rfl (OpJ.and_ rfl rfl rfl ?_) ?_
              · first | (intro h; rw [h]; rfl) | (intro h; simp_all)
              refine AList.c 4 rfl rfl rfl (OpJ.assign rfl rfl) ?_
              refine AList.nil ?_
              refine AWp.ret ?_
              refine Fin.oneE rfl rfl ?_
              rcases op_06 c l with h | h
              · simp [h, law_one F hz h]
              · simp [h]
            · skip
              have hpw : bdN c l &&& (bdN c l - 1) ≠ 0 := by have h := of_decide_eq_false hc8; omega
              refine AWp.skip ?_
              refine AWp.seq ?_
              refine AWp.region ?_
              refine AList.c 208 rfl rfl rfl (OpJ.move rfl rfl) ?_
              refine AList.c 209 rfl rfl rfl (OpJ.move rfl rfl) ?_
              refine AList.c 210 rfl rfl rfl (OpJ.eql rfl rfl rfl) ?_
              refine AList.c 211 rfl rfl rfl (OpJ.move rfl rfl) ?_
              refine AList.g 212 211 rfl rfl rfl rfl rfl rfl rfl [(14, _)] (fun h => And.intro (.inl rfl) (trivial)) (fun h => (OpJ.load (v := .p (.agg [.int .i64 (if opT c l = 0 then ((picF (topC c) (truL (topC c) l)).lo, (picF (topC c) (truL (topC c) l)).hi) else (0, 0)).1, .int .i64 (if opT c l = 0 then ((picF (topC c) (truL (topC c) l)).lo, (picF (topC c) (truL (topC c) l)).hi) else (0, 0)).2])) rfl rfl ty40 rfl)) ?_
              refine AList.g 213 211 rfl rfl rfl rfl rfl rfl rfl [(19, _)] (fun h => And.intro (.inl rfl) (trivial)) (fun h => (OpJ.load (v := .p (.agg [.int .i64 (recS (crds c) (bdN c l : Int) (gdN c l : Int)).1, .int .i64 (recS (crds c) (bdN c l : Int) (gdN c l : Int)).2])) rfl rfl ty40 rfl)) ?_
              refine AList.g 214 211 rfl rfl rfl rfl rfl rfl rfl [(212, _), (213, _)] (fun h => And.intro (.inr ⟨_, rfl, h⟩) (And.intro (.inr ⟨_, rfl, h⟩) (trivial))) (fun h => (OpJ.eqAgg (d := 8) rfl (.inl rfl) rfl rfl (by decide) eq40 ty40 rfl eg40 rfl)) ?_
              refine AList.c 215 rfl rfl rfl (OpJ.and_ rfl rfl rfl ?_) ?_
              · first | (intro h; rw [h]; rfl) | (intro h; simp_all)
              refine AList.c 216 rfl rfl rfl (OpJ.move rfl rfl) ?_
              refine AList.g 217 216 rfl rfl rfl rfl rfl rfl rfl [] (fun h => trivial) (fun h => (OpJ.callP (awake11_ok) rfl rfl rfl rfl rf7)) ?_
              refine AList.c 218 rfl rfl rfl (OpJ.and_ rfl rfl rfl ?_) ?_
              · first | (intro h; rw [h]; rfl) | (intro h; simp_all)
              refine AList.c 4 rfl rfl rfl (OpJ.assign rfl rfl) ?_
              refine AList.nil ?_
              refine AWp.ret ?_
              refine Fin.oneE rfl rfl ?_
              obtain ⟨e1, e2⟩ := law_two F hz hpw
              rw [e2, e1]
              simp
theorem lk_of {el : List PV} (h : TyL [.leaf (.int .i64), .leaf (.int .i64), .leaf (.int .i64)] el) : ∃ t : Lk, el = t.cells := by
  obtain ⟨xs, h1, h2⟩ := ints_of (n := 3) h
  match xs, h1 with
  | [a, b, c], _ => exact ⟨⟨a, b, c⟩, h2⟩
theorem lks_of {x : List PV} (h : TyL [.sl [.leaf (.int .i64), .leaf (.int .i64), .leaf (.int .i64)]] x) : ∃ c : List Lk, x = [lksV c] ∧ c.length ≤ bigN := sl_of (fun _ => lk_of) h
theorem one_of_int {x : PV} (h : Ty (.leaf (.int .i64)) x) : ∃ n : Int, x = .int .i64 n := by
  cases h with
  | int _ n _ => exact ⟨n, rfl⟩
theorem i1_of {el : List PV} (h : TyL [.leaf (.int .i64)] el) : ∃ n : Int, el = i1 n := by
  obtain ⟨n, rfl⟩ := int_of h
  exact ⟨n, rfl⟩
theorem crt_of {x : List PV} (h : TyL [.sl [.leaf (.int .i64)], .leaf (.int .i64), .leaf (.int .i64), .leaf (.int .i64)] x) : ∃ c : Crt, x = crC c ∧ c.rows.length ≤ bigN := by
  cases h with | cons _ _ x0 _ a0 h =>
  cases h with | cons _ _ x1 _ a1 h =>
  cases h with | cons _ _ x2 _ a2 h =>
  cases h with | cons _ _ x3 _ a3 h =>
  cases h
  obtain ⟨n1, rfl⟩ := one_of_int a1
  obtain ⟨n2, rfl⟩ := one_of_int a2
  obtain ⟨n3, rfl⟩ := one_of_int a3
  obtain ⟨l, e1, e2⟩ := sl_of (f := i1) (fun el => i1_of) (.cons _ _ _ _ a0 .nil)
  simp only [List.cons.injEq, and_true] at e1
  subst e1
  exact ⟨⟨l, n1, n2, n3⟩, rfl, e2⟩
theorem topCause_law {x0 x1 : List PV} (h0 : TyL [.sl [.leaf (.int .i64)], .leaf (.int .i64), .leaf (.int .i64), .leaf (.int .i64)] x0) (h1 : TyL [.sl [.leaf (.int .i64), .leaf (.int .i64), .leaf (.int .i64)]] x1) : Pure Tryd.prog 3 [argP true x0, argP false x1] (.bool true) := by
  obtain ⟨c, rfl, hc⟩ := crt_of h0
  obtain ⟨l, rfl, hl⟩ := lks_of h1
  exact topCause_main c l hc hl
end Go.Proofs.YtofenmailjdehaaDoor
