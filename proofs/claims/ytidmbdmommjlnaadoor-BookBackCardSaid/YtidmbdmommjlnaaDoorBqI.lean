/-
  Chapter 14: more facts on types and functions, by the kernel.
  Chapter 14: lists that are cut, and joined again.
  The law on texts that are joined.
-/
import Derived.Test.YtidmbdmommjlnaaDoorBqH
import Derived.Test.YtidmbdmommjlnaaDoorFaC
import Derived.Test.YtidmbdmommjlnaaDoorBqQ
section
set_option maxRecDepth 100000
namespace Go.Proofs.YtidmbdmommjlnaaDoor
open Go.AF
end Go.Proofs.YtidmbdmommjlnaaDoor
end

section
set_option linter.unusedVariables false
set_option linter.unusedSimpArgs false
namespace Go.Proofs.YtidmbdmommjlnaaDoor
open Go Go.AF
theorem bk_take {α : Type} {f : α → List PV} {c : Nat} (hf : ∀ x, (f x).length = c) : ∀ (xs : List α) (k : Nat), (xs.flatMap f).take (k * c) = (xs.take k).flatMap f
  | xs, 0 => by simp
  | [], k + 1 => by simp
  | x :: xs, k + 1 => by
    rw [List.flatMap_cons, List.take_succ_cons, List.flatMap_cons, ← bk_take hf xs k, List.take_append, hf x, show (k + 1) * c - c = k * c by rw [Nat.add_mul, Nat.one_mul, Nat.add_sub_cancel], List.take_of_length_le]
    rw [hf x, Nat.add_mul, Nat.one_mul]
    exact Nat.le_add_left _ _
theorem bk_drop {α : Type} {f : α → List PV} {c : Nat} (hf : ∀ x, (f x).length = c) : ∀ (xs : List α) (k : Nat), (xs.flatMap f).drop (k * c) = (xs.drop k).flatMap f
  | xs, 0 => by simp
  | [], k + 1 => by simp
  | x :: xs, k + 1 => by
    rw [List.flatMap_cons, List.drop_succ_cons, ← bk_drop hf xs k, List.drop_append, hf x, show (k + 1) * c - c = k * c by rw [Nat.add_mul, Nat.one_mul, Nat.add_sub_cancel], List.drop_eq_nil_of_le, List.nil_append]
    rw [hf x, Nat.add_mul, Nat.one_mul]
    exact Nat.le_add_left _ _
theorem bk_cut0 {α : Type} {f : α → List PV} {c : Nat} (hf : ∀ x, (f x).length = c) (xs : List α) (k : Nat) : ((xs.flatMap f).drop (0 * c)).take ((k - 0) * c) = (xs.take k).flatMap f := by
  rw [Nat.zero_mul, List.drop_zero, Nat.sub_zero, bk_take hf]
theorem bk_cut1 {α : Type} {f : α → List PV} {c : Nat} (hf : ∀ x, (f x).length = c) (xs : List α) (k : Nat) : ((xs.flatMap f).drop (k * c)).take ((xs.length - k) * c) = (xs.drop k).flatMap f := by
  rw [bk_drop hf, List.take_of_length_le]
  rw [AF.flat_len hf, List.length_drop]
  exact Nat.le_refl _
section
variable {α : Type} {num : α → Int} {right : α → Bool}
theorem rise_take : ∀ (l : List α) (last : Int) (k : Nat), riseB num right last l = true → riseB num right last (l.take k) = true
  | _, _, 0, _ => rfl
  | [], _, k + 1, _ => rfl
  | x :: l, last, k + 1, h => by
    simp only [riseB, Bool.and_eq_true] at h
    rw [List.take_succ_cons]
    simp only [riseB, Bool.and_eq_true]
    exact ⟨h.1, rise_take l _ k h.2⟩
theorem rise_drop : ∀ (l : List α) (last : Int) (k : Nat), -1 ≤ last → riseB num right last l = true → riseB num right (-1) (l.drop k) = true
  | [], _, k, _, _ => by rw [List.drop_nil]; rfl
  | x :: l, last, 0, h0, h => by
    rw [List.drop_zero]
    simp only [riseB, Bool.and_eq_true] at h ⊢
    obtain ⟨⟨h1, h2⟩, h3⟩ := h
    have := inB_some h1
    refine ⟨⟨?_, h2⟩, h3⟩
    unfold inB
    simp only [Bool.and_eq_true, decide_eq_true_eq]
    omega
  | x :: l, last, k + 1, h0, h => by
    simp only [riseB, Bool.and_eq_true] at h
    have := inB_some h.1.1
    rw [List.drop_succ_cons]
    exact rise_drop l _ k (by omega) h.2
theorem rise_pair : ∀ (l : List α) (last : Int), -1 ≤ last → riseB num right last l = true → l.Pairwise fun a b => num a < num b
  | [], _, _, _ => .nil
  | x :: l, last, h0, h => by
    simp only [riseB, Bool.and_eq_true] at h
    have := inB_some h.1.1
    exact .cons (fun y hy => (rise_all h.2 (by omega) y hy).1) (rise_pair l _ (by omega) h.2)
theorem rise_turn {l : List α} {k : Nat} (h : riseB num right (-1) l = true) (h0 : 0 < k) (h1 : k < l.length) : riseB num right (-1) (l.drop k ++ l.take k) ≠ true := fun h2 => by
  have p1 := rise_pair _ _ (Int.le_refl _) h
  have p2 := rise_pair _ _ (Int.le_refl _) h2
  rw [← List.take_append_drop k l, List.pairwise_append] at p1
  rw [List.pairwise_append] at p2
  obtain ⟨x, hx⟩ : ∃ x, x ∈ l.take k := ⟨l[0], by rw [List.mem_take_iff_getElem]; exact ⟨0, by omega, rfl⟩⟩
  obtain ⟨y, hy⟩ : ∃ y, y ∈ l.drop k := ⟨l[k], by rw [List.drop_eq_getElem_cons h1]; exact List.mem_cons_self⟩
  have a := p1.2.2 x hx y hy
  have b := p2.2.2 y hy x hx
  omega
end
theorem wrR_take {l : List Rpt} (h : (wrR l).2 = 0) (k : Nat) : wrR (l.take k) = (rptsT (l.take k), 0) ∧ wrR (l.drop k) = (rptsT (l.drop k), 0) ∧ rptsT (l.take k) ++ rptsT (l.drop k) = (wrR l).1 ∧ (rptsT (l.take k)).length ≤ 22200 ∧ (rptsT (l.drop k)).length ≤ 22200 := by
  obtain ⟨h1, h2, h3, h4, _⟩ := wrR_ok h
  have e : rptsT (l.take k) ++ rptsT (l.drop k) = rptsT l := by
    unfold rptsT
    rw [← List.flatMap_append, List.take_append_drop]
  have e2 := congrArg List.length e
  rw [List.length_append] at e2
  exact ⟨wrR_of (by rw [List.length_take]; omega) (rise_take l _ k h2), wrR_of (by rw [List.length_drop]; omega) (rise_drop l _ k (by decide) h2), by rw [e, h3], by omega, by omega⟩
theorem wrP_take {l : List Pck} (h : (wrP l).2 = 0) (k : Nat) : wrP (l.take k) = (pcksT (l.take k), 0) ∧ wrP (l.drop k) = (pcksT (l.drop k), 0) ∧ pcksT (l.take k) ++ pcksT (l.drop k) = (wrP l).1 ∧ (pcksT (l.take k)).length + (pcksT (l.drop k)).length ≤ 40770 := by
  obtain ⟨h1, h2, h3, h4, _⟩ := wrP_ok h
  have e : pcksT (l.take k) ++ pcksT (l.drop k) = pcksT l := by
    unfold pcksT
    rw [← List.flatMap_append, List.take_append_drop]
  have e2 := congrArg List.length e
  rw [List.length_append] at e2
  exact ⟨wrP_of (by rw [List.length_take]; omega) (rise_take l _ k h2), wrP_of (by rw [List.length_drop]; omega) (rise_drop l _ k (by decide) h2), by rw [e, h3], by omega⟩
theorem rdP_turn {l : List Pck} (h : (wrP l).2 = 0) {k : Nat} (h0 : 0 < k) (h1 : k < l.length) : ∃ v, rdP (pcksT (l.drop k) ++ pcksT (l.take k)) = (v, 8) := by
  obtain ⟨k1, k2, _, k4, _⟩ := wrP_ok h
  have e2 := (wrP_take h k).2.2.2
  obtain ⟨v, e, n, g, _, ⟨_, l2, _, m1, m2, m3, _⟩ | ⟨rfl, _, _⟩⟩ := rdP_forms (s := pcksT (l.drop k) ++ pcksT (l.take k)) (by rw [List.length_append]; omega)
  · exfalso
    have a := pcks_back m1 m2
    rw [← m3] at a
    have b := pcks_app 30 (l.drop k ++ l.take k) (by rw [List.length_append, List.length_drop, List.length_take]; omega) (fun x hx => by
      rcases List.mem_append.1 hx with hx | hx
      · exact pcks_R k2 x (List.mem_of_mem_drop hx)
      · exact pcks_R k2 x (List.mem_of_mem_take hx))
    rw [List.flatMap_append] at b
    have c : l2 = l.drop k ++ l.take k := Option.some.inj (a.symm.trans b)
    rw [c] at m2
    exact rise_turn k2 h0 h1 m2
  · exact ⟨v, g⟩
end Go.Proofs.YtidmbdmommjlnaaDoor
end

section
set_option linter.unusedVariables false
set_option maxRecDepth 100000
set_option maxHeartbeats 4000000
set_option linter.unusedSimpArgs false
namespace Go.Proofs.YtidmbdmommjlnaaDoor
open Go.AF
theorem writeR_take {l : List Rpt} {k : Nat} (hk : k ≤ l.length) (hl : l.length ≤ bigN) (hs : ∀ r ∈ l, r.strokes.length ≤ bigN) {s : Bs} {e : Int} (h : wrR (l.take k) = (s, e)) : Pure Tryd.prog 10 [.is ((l.take k).flatMap Rpt.cells) (k - 0)] (.tuple [.str (sB s), .int .i64 e]) := by
  have h2 := writeReports_eq (l := l.take k) (by rw [List.length_take]; omega) (fun r hr => hs r (List.mem_of_mem_take hr)) h
  unfold rptsV at h2
  rwa [List.length_take, Nat.min_eq_left hk] at h2
theorem writeR_drop {l : List Rpt} {k : Nat} (hk : k ≤ l.length) (hl : l.length ≤ bigN) (hs : ∀ r ∈ l, r.strokes.length ≤ bigN) {s : Bs} {e : Int} (h : wrR (l.drop k) = (s, e)) : Pure Tryd.prog 10 [.is ((l.drop k).flatMap Rpt.cells) (l.length - k)] (.tuple [.str (sB s), .int .i64 e]) := by
  have h2 := writeReports_eq (l := l.drop k) (by rw [List.length_drop]; omega) (fun r hr => hs r (List.mem_of_mem_drop hr)) h
  unfold rptsV at h2
  rwa [List.length_drop] at h2
theorem writeP_take {l : List Pck} {k : Nat} (hk : k ≤ l.length) (hl : l.length ≤ bigN) (hs : ∀ r ∈ l, r.colours.length ≤ bigN) {s : Bs} {e : Int} (h : wrP (l.take k) = (s, e)) : Pure Tryd.prog 12 [.is ((l.take k).flatMap Pck.cells) (k - 0)] (.tuple [.str (sB s), .int .i64 e]) := by
  have h2 := writePacks_eq (l := l.take k) (by rw [List.length_take]; omega) (fun r hr => hs r (List.mem_of_mem_take hr)) h
  unfold pcksV at h2
  rwa [List.length_take, Nat.min_eq_left hk] at h2
theorem writeP_drop {l : List Pck} {k : Nat} (hk : k ≤ l.length) (hl : l.length ≤ bigN) (hs : ∀ r ∈ l, r.colours.length ≤ bigN) {s : Bs} {e : Int} (h : wrP (l.drop k) = (s, e)) : Pure Tryd.prog 12 [.is ((l.drop k).flatMap Pck.cells) (l.length - k)] (.tuple [.str (sB s), .int .i64 e]) := by
  have h2 := writePacks_eq (l := l.drop k) (by rw [List.length_drop]; omega) (fun r hr => hs r (List.mem_of_mem_drop hr)) h
  unfold pcksV at h2
  rwa [List.length_drop] at h2
theorem bookJoin_ok (r : List Rpt) (p : List Pck) (hr : r.length ≤ bigN) (hrs : ∀ x ∈ r, x.strokes.length ≤ bigN) (hp : p.length ≤ bigN) (hps : ∀ x ∈ p, x.colours.length ≤ bigN) (y : UInt8) : Pure Tryd.prog 6 [rptsV r, pcksV p, .int .u8 (y.toNat : Int)] (.bool true) := by
  have hy := y.toNat_lt
  have hr2 := hr
  have hp2 := hp
  unfold bigN at hr2 hp2
  refine Pure.start (N := 125) Tryd.func6 rfl rfl (Nat.le_of_ble_eq_true rfl) ?_
  refine AWp.seq ?_
  refine AWp.region ?_
  refine AList.c 6 rfl rfl rfl (OpJ.assign rfl rfl) ?_
  refine AList.nil ?_
  refine AWp.seq ?_
  refine AWp.seq ?_
  refine AWp.region ?_
  refine AList.c 23 rfl rfl rfl (OpJ.move rfl rfl) ?_
  refine AList.c 24 rfl rfl rfl (OpJ.move rfl rfl) ?_
  refine AList.c 25 rfl rfl rfl (OpJ.callP (manyRP_ok r p hr hp) rfl rfl rfl rfl rf8) ?_
  refine AList.nil ?_
  refine AWp.cond _ rfl (fun hc0 => ?_) (fun hc0 => ?_)
  · skip
    refine AWp.seq ?_
    refine AWp.region ?_
    refine AList.c 26 rfl rfl rfl (OpJ.callP (alive_ok) rfl rfl rfl rfl rf9) ?_
    refine AList.c 6 rfl rfl rfl (OpJ.assign rfl rfl) ?_
    refine AList.nil ?_
    refine AWp.ret ?_
    exact Fin.oneE rfl rfl rfl
  · skip
    refine AWp.skip ?_
    refine AWp.seq ?_
    have hmm := many_not hc0
    obtain ⟨s, w, hw⟩ : ∃ s w, wrR r = (s, w) := ⟨_, _, rfl⟩
    refine AWp.region ?_
    refine AList.c 28 rfl rfl rfl (OpJ.move rfl rfl) ?_
    refine AList.c 29 rfl rfl rfl (OpJ.callP (writeReports_eq hr hrs hw) rfl rfl rfl rfl rf10) ?_
    refine AList.c 27 rfl rfl rfl (OpJ.move rfl rfl) ?_
    refine AList.c 30 rfl rfl rfl (OpJ.extract rfl rfl rfl) ?_
    refine AList.c 31 rfl rfl rfl (OpJ.extract rfl rfl rfl) ?_
    refine AList.c 7 rfl rfl rfl (OpJ.assign rfl rfl) ?_
    refine AList.c 8 rfl rfl rfl (OpJ.assign rfl rfl) ?_
    refine AList.nil ?_
    refine AWp.join (fun (g : Unit) => [(0, .p (rptsV r)), (1, .p (pcksV p)), (2, .p (.int .u8 (y.toNat : Int)))]) (fun (g : Unit) => []) (fun (g : Unit) => True) ?_ (fun g hg => ?_)
    · skip
      refine AWp.seq ?_
      refine AWp.region ?_
      refine AList.c 32 rfl rfl rfl (OpJ.move rfl rfl) ?_
      refine AList.c 33 rfl rfl rfl (OpJ.eql rfl rfl rfl) ?_
      refine AList.nil ?_
      refine AWp.cond _ rfl (fun hc1 => ?_) (fun hc1 => ?_)
      · skip
        have hz : w = 0 := by simpa using hc1
        subst hz
        obtain ⟨k, hk⟩ : ∃ k, k = y.toNat % (r.length + 1) := ⟨_, rfl⟩
        have hkl : k ≤ r.length := by rw [hk]; have := Nat.mod_lt y.toNat (show 0 < r.length + 1 by omega); omega
        obtain ⟨q1, q2, q3, q4, q5⟩ := wrR_take (l := r) (by rw [hw]) k
        rw [hw] at q3
        dsimp only at q3
        refine AWp.seq ?_
        refine AWp.region ?_
        refine AList.c 34 rfl rfl rfl (OpJ.move rfl rfl) ?_
        refine AList.c 35 rfl rfl rfl (OpJ.convInt rfl rfl (by rw [un5]; rfl) un3 (i64ok ?_)) ?_
        · omega
        refine AList.c 36 rfl rfl rfl (OpJ.move rfl rfl) ?_
        refine AList.c 37 rfl rfl rfl (OpJ.lenSlice rfl rfl sl22 rfl) ?_
        refine AList.c 38 rfl rfl rfl (OpJ.add (m := ((r.length + 1 : Nat) : Int)) rfl rfl rfl ((i64ok ?_).trans ?_)) ?_
        · omega
        · omega
        refine AList.c 39 rfl rfl rfl (OpJ.rem (m := (k : Int)) rfl rfl rfl ?_ ?_) ?_
        · omega
        · rw [hk]; exact tmodN _ _
        refine AList.c 9 rfl rfl rfl (OpJ.assign rfl rfl) ?_
        refine AList.nil ?_
        refine AWp.seq ?_
        refine AWp.region ?_
        refine AList.c 41 rfl rfl rfl (OpJ.move rfl rfl) ?_
        refine AList.c 42 rfl rfl rfl (OpJ.move rfl rfl) ?_
        refine AList.c 43 rfl rfl rfl (OpJ.sliceIs (l := 0) (h := k) (r := ((r.take k).flatMap Rpt.cells)) rfl rfl sl22 el22 rfl ⟨_, rfl⟩ (by omega) (by omega) (bk_cut0 (f := Rpt.cells) (c := 6) (fun _ => rfl) r k)) ?_
        refine AList.c 44 rfl rfl rfl (OpJ.callP (writeR_take hkl hr hrs q1) rfl rfl rfl rfl rf10) ?_
        refine AList.c 40 rfl rfl rfl (OpJ.move rfl rfl) ?_
        refine AList.c 45 rfl rfl rfl (OpJ.extract rfl rfl rfl) ?_
        refine AList.c 46 rfl rfl rfl (OpJ.extract rfl rfl rfl) ?_
        refine AList.c 10 rfl rfl rfl (OpJ.assign rfl rfl) ?_
        refine AList.c 11 rfl rfl rfl (OpJ.assign rfl rfl) ?_
        refine AList.nil ?_
        refine AWp.seq ?_
        refine AWp.region ?_
        refine AList.c 48 rfl rfl rfl (OpJ.move rfl rfl) ?_
        refine AList.c 49 rfl rfl rfl (OpJ.move rfl rfl) ?_
        refine AList.c 50 rfl rfl rfl (OpJ.sliceIs (l := k) (h := r.length) (r := ((r.drop k).flatMap Rpt.cells)) rfl rfl sl22 el22 ⟨_, rfl⟩ rfl (by omega) (by omega) (bk_cut1 (f := Rpt.cells) (c := 6) (fun _ => rfl) r k)) ?_
        refine AList.c 51 rfl rfl rfl (OpJ.callP (writeR_drop hkl hr hrs q2) rfl rfl rfl rfl rf10) ?_
        refine AList.c 47 rfl rfl rfl (OpJ.move rfl rfl) ?_
        refine AList.c 52 rfl rfl rfl (OpJ.extract rfl rfl rfl) ?_
        refine AList.c 53 rfl rfl rfl (OpJ.extract rfl rfl rfl) ?_
        refine AList.c 12 rfl rfl rfl (OpJ.assign rfl rfl) ?_
        refine AList.c 13 rfl rfl rfl (OpJ.assign rfl rfl) ?_
        refine AList.nil ?_
        refine AWp.seq ?_
        refine AWp.region ?_
        refine AList.c 54 rfl rfl rfl (OpJ.move rfl rfl) ?_
        refine AList.c 55 rfl rfl rfl (OpJ.neq rfl rfl rfl) ?_
        refine AList.c 56 rfl rfl rfl (OpJ.move rfl rfl) ?_
        refine AList.g 57 56 rfl rfl rfl rfl rfl rfl rfl [(13, _)] (fun h => And.intro (.inl rfl) (trivial)) (fun h => (OpJ.move rfl rfl)) ?_
        refine AList.g 58 56 rfl rfl rfl rfl rfl rfl rfl [(57, _)] (fun h => And.intro (.inr ⟨_, rfl, h⟩) (trivial)) (fun h => (OpJ.neq rfl rfl rfl)) ?_
        refine AList.c 59 rfl rfl rfl (OpJ.or_ rfl rfl rfl ?_) ?_
        · first | (intro h; rw [h]; rfl) | (intro h; simp_all)
        refine AList.c 60 rfl rfl rfl (OpJ.move rfl rfl) ?_
        refine AList.g 61 60 rfl rfl rfl rfl rfl rfl rfl [(10, _)] (fun h => And.intro (.inl rfl) (trivial)) (fun h => (OpJ.move rfl rfl)) ?_
        refine AList.g 62 60 rfl rfl rfl rfl rfl rfl rfl [(12, _)] (fun h => And.intro (.inl rfl) (trivial)) (fun h => (OpJ.move rfl rfl)) ?_
        refine AList.g 63 60 rfl rfl rfl rfl rfl rfl rfl [(61, _), (62, _)] (fun h => And.intro (.inr ⟨_, rfl, h⟩) (And.intro (.inr ⟨_, rfl, h⟩) (trivial))) (fun h => (OpJ.strAdd (rptsT (r.take k)) (rptsT (r.drop k)) rfl rfl rfl (by omega))) ?_
        refine AList.g 64 60 rfl rfl rfl rfl rfl rfl rfl [(7, _)] (fun h => And.intro (.inl rfl) (trivial)) (fun h => (OpJ.move rfl rfl)) ?_
        refine AList.g 65 60 rfl rfl rfl rfl rfl rfl rfl [(63, _), (64, _)] (fun h => And.intro (.inr ⟨_, rfl, h⟩) (And.intro (.inr ⟨_, rfl, h⟩) (trivial))) (fun h => (OpJ.strNe (rptsT (r.take k) ++ rptsT (r.drop k)) s rfl rfl rfl)) ?_
        refine AList.c 66 rfl rfl rfl (OpJ.or_ rfl rfl rfl ?_) ?_
        · first | (intro h; rw [h]; rfl) | (intro h; simp_all)
        refine AList.nil ?_
        refine AWp.cond _ rfl (fun hc2 => ?_) (fun hc2 => ?_)
        · skip
          exfalso
          simp [q3] at hc2
        · skip
          refine AWp.skip ?_
          exact ⟨(), trivial, To.sub (by repeat (first | exact Sub.nil | refine Sub.cons rfl ?_))⟩
      · skip
        refine AWp.skip ?_
        exact ⟨(), trivial, To.sub (by repeat (first | exact Sub.nil | refine Sub.cons rfl ?_))⟩
    · skip
      refine AWp.seq ?_
      have hmm := many_not hc0
      obtain ⟨t, w, hw⟩ : ∃ s w, wrP p = (s, w) := ⟨_, _, rfl⟩
      refine AWp.region ?_
      refine AList.c 68 rfl rfl rfl (OpJ.move rfl rfl) ?_
      refine AList.c 69 rfl rfl rfl (OpJ.callP (writePacks_eq hp hps hw) rfl rfl rfl rfl rf12) ?_
      refine AList.c 67 rfl rfl rfl (OpJ.move rfl rfl) ?_
      refine AList.c 70 rfl rfl rfl (OpJ.extract rfl rfl rfl) ?_
      refine AList.c 71 rfl rfl rfl (OpJ.extract rfl rfl rfl) ?_
      refine AList.c 14 rfl rfl rfl (OpJ.assign rfl rfl) ?_
      refine AList.c 15 rfl rfl rfl (OpJ.assign rfl rfl) ?_
      refine AList.nil ?_
      refine AWp.join (fun (g : Unit) => [(0, .p (rptsV r)), (1, .p (pcksV p)), (2, .p (.int .u8 (y.toNat : Int)))]) (fun (g : Unit) => []) (fun (g : Unit) => True) ?_ (fun g hg => ?_)
      · skip
        refine AWp.seq ?_
        refine AWp.region ?_
        refine AList.c 72 rfl rfl rfl (OpJ.move rfl rfl) ?_
        refine AList.c 73 rfl rfl rfl (OpJ.eql rfl rfl rfl) ?_
        refine AList.nil ?_
        refine AWp.cond _ rfl (fun hc3 => ?_) (fun hc3 => ?_)
        · skip
          have hz : w = 0 := by simpa using hc3
          subst hz
          obtain ⟨k, hk⟩ : ∃ k, k = y.toNat % (p.length + 1) := ⟨_, rfl⟩
          have hkl : k ≤ p.length := by rw [hk]; have := Nat.mod_lt y.toNat (show 0 < p.length + 1 by omega); omega
          have hw0 : (wrP p).2 = 0 := by rw [hw]
          obtain ⟨q1, q2, q3, q4⟩ := wrP_take hw0 k
          rw [hw] at q3
          dsimp only at q3
          refine AWp.seq ?_
          refine AWp.region ?_
          refine AList.c 74 rfl rfl rfl (OpJ.move rfl rfl) ?_
          refine AList.c 75 rfl rfl rfl (OpJ.convInt rfl rfl (by rw [un5]; rfl) un3 (i64ok ?_)) ?_
          · omega
          refine AList.c 76 rfl rfl rfl (OpJ.move rfl rfl) ?_
          refine AList.c 77 rfl rfl rfl (OpJ.lenSlice rfl rfl sl24 rfl) ?_
          refine AList.c 78 rfl rfl rfl (OpJ.add (m := ((p.length + 1 : Nat) : Int)) rfl rfl rfl ((i64ok ?_).trans ?_)) ?_
          · omega
          · omega
          refine AList.c 79 rfl rfl rfl (OpJ.rem (m := (k : Int)) rfl rfl rfl ?_ ?_) ?_
          · omega
          · rw [hk]; exact tmodN _ _
          refine AList.c 16 rfl rfl rfl (OpJ.assign rfl rfl) ?_
          refine AList.nil ?_
          refine AWp.seq ?_
          refine AWp.region ?_
          refine AList.c 81 rfl rfl rfl (OpJ.move rfl rfl) ?_
          refine AList.c 82 rfl rfl rfl (OpJ.move rfl rfl) ?_
          refine AList.c 83 rfl rfl rfl (OpJ.sliceIs (l := 0) (h := k) (r := ((p.take k).flatMap Pck.cells)) rfl rfl sl24 el24 rfl ⟨_, rfl⟩ (by omega) (by omega) (bk_cut0 (f := Pck.cells) (c := 2) (fun _ => rfl) p k)) ?_
          refine AList.c 84 rfl rfl rfl (OpJ.callP (writeP_take hkl hp hps q1) rfl rfl rfl rfl rf12) ?_
          refine AList.c 80 rfl rfl rfl (OpJ.move rfl rfl) ?_
          refine AList.c 85 rfl rfl rfl (OpJ.extract rfl rfl rfl) ?_
          refine AList.c 86 rfl rfl rfl (OpJ.extract rfl rfl rfl) ?_
          refine AList.c 17 rfl rfl rfl (OpJ.assign rfl rfl) ?_
          refine AList.c 18 rfl rfl rfl (OpJ.assign rfl rfl) ?_
          refine AList.nil ?_
          refine AWp.seq ?_
          refine AWp.region ?_
          refine AList.c 88 rfl rfl rfl (OpJ.move rfl rfl) ?_
          refine AList.c 89 rfl rfl rfl (OpJ.move rfl rfl) ?_
          refine AList.c 90 rfl rfl rfl (OpJ.sliceIs (l := k) (h := p.length) (r := ((p.drop k).flatMap Pck.cells)) rfl rfl sl24 el24 ⟨_, rfl⟩ rfl (by omega) (by omega) (bk_cut1 (f := Pck.cells) (c := 2) (fun _ => rfl) p k)) ?_
          refine AList.c 91 rfl rfl rfl (OpJ.callP (writeP_drop hkl hp hps q2) rfl rfl rfl rfl rf12) ?_
          refine AList.c 87 rfl rfl rfl (OpJ.move rfl rfl) ?_
          refine AList.c 92 rfl rfl rfl (OpJ.extract rfl rfl rfl) ?_
          refine AList.c 93 rfl rfl rfl (OpJ.extract rfl rfl rfl) ?_
          refine AList.c 19 rfl rfl rfl (OpJ.assign rfl rfl) ?_
          refine AList.c 20 rfl rfl rfl (OpJ.assign rfl rfl) ?_
          refine AList.nil ?_
          refine AWp.seq ?_
          refine AWp.seq ?_
          refine AWp.region ?_
          refine AList.c 94 rfl rfl rfl (OpJ.move rfl rfl) ?_
          refine AList.c 95 rfl rfl rfl (OpJ.neq rfl rfl rfl) ?_
          refine AList.c 96 rfl rfl rfl (OpJ.move rfl rfl) ?_
          refine AList.g 97 96 rfl rfl rfl rfl rfl rfl rfl [(20, _)] (fun h => And.intro (.inl rfl) (trivial)) (fun h => (OpJ.move rfl rfl)) ?_
          refine AList.g 98 96 rfl rfl rfl rfl rfl rfl rfl [(97, _)] (fun h => And.intro (.inr ⟨_, rfl, h⟩) (trivial)) (fun h => (OpJ.neq rfl rfl rfl)) ?_
          refine AList.c 99 rfl rfl rfl (OpJ.or_ rfl rfl rfl ?_) ?_
          · first | (intro h; rw [h]; rfl) | (intro h; simp_all)
          refine AList.c 100 rfl rfl rfl (OpJ.move rfl rfl) ?_
          refine AList.g 101 100 rfl rfl rfl rfl rfl rfl rfl [(17, _)] (fun h => And.intro (.inl rfl) (trivial)) (fun h => (OpJ.move rfl rfl)) ?_
          refine AList.g 102 100 rfl rfl rfl rfl rfl rfl rfl [(19, _)] (fun h => And.intro (.inl rfl) (trivial)) (fun h => (OpJ.move rfl rfl)) ?_
          refine AList.g 103 100 rfl rfl rfl rfl rfl rfl rfl [(101, _), (102, _)] (fun h => And.intro (.inr ⟨_, rfl, h⟩) (And.intro (.inr ⟨_, rfl, h⟩) (trivial))) (fun h => (OpJ.strAdd (pcksT (p.take k)) (pcksT (p.drop k)) rfl rfl rfl (by omega))) ?_
          refine AList.g 104 100 rfl rfl rfl rfl rfl rfl rfl [(14, _)] (fun h => And.intro (.inl rfl) (trivial)) (fun h => (OpJ.move rfl rfl)) ?_
          refine AList.g 105 100 rfl rfl rfl rfl rfl rfl rfl [(103, _), (104, _)] (fun h => And.intro (.inr ⟨_, rfl, h⟩) (And.intro (.inr ⟨_, rfl, h⟩) (trivial))) (fun h => (OpJ.strNe (pcksT (p.take k) ++ pcksT (p.drop k)) t rfl rfl rfl)) ?_
          refine AList.c 106 rfl rfl rfl (OpJ.or_ rfl rfl rfl ?_) ?_
          · first | (intro h; rw [h]; rfl) | (intro h; simp_all)
          refine AList.nil ?_
          refine AWp.cond _ rfl (fun hc4 => ?_) (fun hc4 => ?_)
          · skip
            exfalso
            simp [q3] at hc4
          · skip
            refine AWp.skip ?_
            refine AWp.seq ?_
            refine AWp.region ?_
            refine AList.c 107 rfl rfl rfl (OpJ.move rfl rfl) ?_
            refine AList.c 108 rfl rfl rfl (OpJ.gtr rfl rfl rfl) ?_
            refine AList.c 109 rfl rfl rfl (OpJ.move rfl rfl) ?_
            refine AList.g 110 109 rfl rfl rfl rfl rfl rfl rfl [(16, _)] (fun h => And.intro (.inl rfl) (trivial)) (fun h => (OpJ.move rfl rfl)) ?_
            refine AList.g 111 109 rfl rfl rfl rfl rfl rfl rfl [(1, _)] (fun h => And.intro (.inl rfl) (trivial)) (fun h => (OpJ.move rfl rfl)) ?_
            refine AList.g 112 109 rfl rfl rfl rfl rfl rfl rfl [(111, _)] (fun h => And.intro (.inr ⟨_, rfl, h⟩) (trivial)) (fun h => (OpJ.lenSlice rfl rfl sl24 rfl)) ?_
            refine AList.g 113 109 rfl rfl rfl rfl rfl rfl rfl [(110, _), (112, _)] (fun h => And.intro (.inr ⟨_, rfl, h⟩) (And.intro (.inr ⟨_, rfl, h⟩) (trivial))) (fun h => (OpJ.lss rfl rfl rfl)) ?_
            refine AList.c 114 rfl rfl rfl (OpJ.and_ rfl rfl rfl ?_) ?_
            · first | (intro h; rw [h]; rfl) | (intro h; simp_all)
            refine AList.nil ?_
            refine AWp.cond _ rfl (fun hc5 => ?_) (fun hc5 => ?_)
            · skip
              obtain ⟨v, hv⟩ := rdP_turn hw0 (k := k) (by simp at hc5; omega) (by simp at hc5; omega)
              refine AWp.seq ?_
              refine AWp.region ?_
              refine AList.c 116 rfl rfl rfl (OpJ.move rfl rfl) ?_
              refine AList.c 117 rfl rfl rfl (OpJ.move rfl rfl) ?_
              refine AList.c 118 rfl rfl rfl (OpJ.strAdd (pcksT (p.drop k)) (pcksT (p.take k)) rfl rfl rfl ?_) ?_
              · omega
              refine AList.c 119 rfl rfl rfl (OpJ.callP (readPacks_eq hv) rfl rfl rfl rfl rf17) ?_
              refine AList.c 115 rfl rfl rfl (OpJ.move rfl rfl) ?_
              refine AList.c 120 rfl rfl rfl (OpJ.extract rfl rfl rfl) ?_
              refine AList.c 121 rfl rfl rfl (OpJ.extract rfl rfl rfl) ?_
              refine AList.c 21 rfl rfl rfl (OpJ.assign rfl rfl) ?_
              refine AList.c 22 rfl rfl rfl (OpJ.assign rfl rfl) ?_
              refine AList.nil ?_
              refine AWp.seq ?_
              refine AWp.region ?_
              refine AList.c 122 rfl rfl rfl (OpJ.move rfl rfl) ?_
              refine AList.c 123 rfl rfl rfl (OpJ.neq rfl rfl rfl) ?_
              refine AList.nil ?_
              refine AWp.cond _ rfl (fun hc6 => ?_) (fun hc6 => ?_)
              · skip
                exfalso
                simp at hc6
              · skip
                refine AWp.skip ?_
                exact ⟨(), trivial, To.sub (by repeat (first | exact Sub.nil | refine Sub.cons rfl ?_))⟩
            · skip
              refine AWp.skip ?_
              exact ⟨(), trivial, To.sub (by repeat (first | exact Sub.nil | refine Sub.cons rfl ?_))⟩
        · skip
          refine AWp.skip ?_
          exact ⟨(), trivial, To.sub (by repeat (first | exact Sub.nil | refine Sub.cons rfl ?_))⟩
      · skip
        refine AWp.seq ?_
        refine AWp.region ?_
        refine AList.c 124 rfl rfl rfl (OpJ.callP (alive_ok) rfl rfl rfl rfl rf9) ?_
        refine AList.c 6 rfl rfl rfl (OpJ.assign rfl rfl) ?_
        refine AList.nil ?_
        refine AWp.ret ?_
        exact Fin.oneE rfl rfl rfl
theorem bookJoin_law {x0 x1 x2 : List PV} (h0 : TyL [.sl shR] x0) (h1 : TyL [.sl shP] x1) (h2 : TyL [.leaf (.int .u8)] x2) : Pure Tryd.prog 6 [argP false x0, argP false x1, argP false x2] (.bool true) := by
  obtain ⟨r, rfl, hr, hrs⟩ := rpts_of h0
  obtain ⟨p, rfl, hp, hps⟩ := pcks_of h1
  obtain ⟨y, rfl⟩ := u8_of h2
  exact bookJoin_ok r p hr hrs hp hps y
end Go.Proofs.YtidmbdmommjlnaaDoor
end
