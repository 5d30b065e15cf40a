/-
  Chapter 14: more facts on types and functions, by the kernel.
  The law that nothing is shared.
-/
import Derived.Test.YtplofbjppcbchaaDoorMzVG
import Derived.Test.YtplofbjppcbchaaDoorFaVC
import Derived.Test.YtplofbjppcbchaaDoorMzVE
import Derived.Test.YtplofbjppcbchaaDoorMzVQ
import Derived.Test.YtplofbjppcbchaaDoorFaVE
section
set_option maxRecDepth 100000
namespace Go.Proofs.YtplofbjppcbchaaDoor
open Go.AF
theorem by29 : byI Tryd.prog 29 = some 24 := by kernel_rfl
theorem by34 : byI Tryd.prog 34 = some 24 := by kernel_rfl
theorem el27 : elI Tryd.prog 27 = some 1 := by kernel_rfl
theorem el28 : elI Tryd.prog 28 = some 1 := by kernel_rfl
theorem rf10 : realFn Tryd.prog 10 = true := by kernel_rfl
theorem rf4 : realFn Tryd.prog 4 = true := by kernel_rfl
theorem rf5 : realFn Tryd.prog 5 = true := by kernel_rfl
theorem sl27 : isSl Tryd.prog 27 = true := by kernel_rfl
theorem sl28 : isSl Tryd.prog 28 = true := by kernel_rfl
theorem slz27 : slI Tryd.prog 27 = some (29, [.nilSlice]) := by kernel_rfl
theorem slz28 : slI Tryd.prog 28 = some (34, [.nilSlice]) := by kernel_rfl
end Go.Proofs.YtplofbjppcbchaaDoor
end

section
set_option linter.unusedVariables false
set_option maxRecDepth 100000
set_option maxHeartbeats 4000000
set_option linter.unusedSimpArgs false
namespace Go.Proofs.YtplofbjppcbchaaDoor
open Go.AF
theorem frzV_acc {i j : Nat} (h : i ≠ j) (xs : List PV) (n : Nat) : some (frzV i xs (accV j n)) = some (accV j n) := by
  cases n with
  | zero => rfl
  | succ n => simp [accV, frzV, h, Ne.symm h]
def stC (x : Rpt) : List PV := [.is (x.strokes.flatMap Stk.cells) (0 + x.strokes.length)]
def clC (x : Pck) : List PV := [.is (x.colours.flatMap intC) (0 + x.colours.length)]
theorem set_gt {α : Type} (d : α) {l : List α} {i : Nat} (h : i < l.length) : l.set i (gt d l i) = l := by
  rw [← gt_get d i h, List.set_getElem_self]
theorem sameP_self (s : Bs) : Pure Tryd.prog 13 [(rdP s).1, (rdP s).1] (.bool true) := by
  have h0 : Pure Tryd.prog 13 [.nilSlice, .nilSlice] (.bool true) := Pure.acc (P := Tryd.prog) (f := 13) [] (n := 0) (xs := []) (fun _ => rfl) (Pure.acc (P := Tryd.prog) (f := 13) [.is [] 0] (n := 0) (xs := []) (r := []) (fun _ => rfl) (sameP_ok [] [] (by decide) (by decide) (by decide) (by decide)))
  rcases Nat.lt_or_ge 65536 s.length with h | h
  · rw [rdP_big h]; exact h0
  · obtain ⟨v, e, n, g, _, ⟨_, l, rfl, h1, h2, _⟩ | ⟨_, _, rfl⟩⟩ := rdP_forms h
    · rw [g]
      have := sameP_ok l l (Nat.le_trans h1 (by decide)) (Nat.le_trans h1 (by decide)) (pcksB_n h2) (pcksB_n h2)
      rwa [decide_eq_true rfl] at this
    · rw [g]; exact h0
theorem sameR_0 (l : List Rpt) (hl : l.length ≤ bigN) (hs : ∀ x ∈ l, x.strokes.length ≤ bigN) : Pure Tryd.prog 11 [.is (l.flatMap Rpt.cells) (0 + l.length), rptsV l] (.bool true) := by
  have h := sameR_ok l l hl hl hs hs
  rw [decide_eq_true rfl] at h
  rw [Nat.zero_add]
  exact h
theorem sameC_0 (l : List Crd) (hl : l.length ≤ bigN) : Pure Tryd.prog 12 [.is (l.flatMap Crd.cells) (0 + l.length), crdsV l] (.bool true) := by
  have h := sameC_ok l l hl hl
  rw [decide_eq_true rfl] at h
  rw [Nat.zero_add]
  exact h
theorem sameP_0 (l : List Pck) (hl : l.length ≤ bigN) (hs : ∀ x ∈ l, x.colours.length ≤ bigN) : Pure Tryd.prog 13 [.is (l.flatMap Pck.cells) (0 + l.length), pcksV l] (.bool true) := by
  have h := sameP_ok l l hl hl hs hs
  rw [decide_eq_true rfl] at h
  rw [Nat.zero_add]
  exact h
theorem pck_zC (l : List Pck) : l.flatMap Pck.cells = (l.map fun x => (x.box, x.colours)).flatMap zC := by
  rw [List.flatMap_map]
  rfl
theorem lay_oth : ∀ x ∈ laidG Tryd.prog, othL x.2 = true := List.all_eq_true.1 (show (laidG Tryd.prog).all (fun x => othL x.2) = true by kernel_rfl)
/-- What is read can be written. -/
theorem own_ok (s : Bs) : ACalls Tryd.prog 9 [.p (.str (sB s))] [] fun v H' => ∃ xv j0 o ls, v = .tuple [xv, .p (.int .i64 (rdP s).2)] ∧ XOk xv j0 o ls.length ∧ ZnOk j0 o ls H' ∧ ls.length ≤ 1000 ∧ ∀ n ∈ ls, n ≤ 1000 := by
  have hp := readPacks_ok s
  have h0 : ∀ v : PV, (v = .nilSlice ∨ v = .is [] 0) → (rdP s).1 = v → ACalls Tryd.prog 9 [.p (.str (sB s))] [] fun v H' => ∃ xv j0 o ls, v = .tuple [xv, .p (.int .i64 (rdP s).2)] ∧ XOk xv j0 o ls.length ∧ ZnOk j0 o ls H' ∧ ls.length ≤ 1000 ∧ ∀ n ∈ ls, n ≤ 1000 := fun v hv he => by
    refine (ACalls.tup2 (P := Tryd.prog) hp).mono fun x H' hx => ?_
    obtain ⟨rfl, rfl⟩ := hx
    rw [he]
    exact ⟨.p v, 0, 0, [], rfl, XOk.nil _ (hv.imp (congrArg V.p) (congrArg V.p)), ZnOk.nil _, Nat.zero_le _, fun n h => by cases h⟩
  rcases Nat.lt_or_ge 65536 s.length with h | h
  · exact h0 _ (.inl rfl) (by rw [rdP_big h])
  · obtain ⟨v, e, n, g, _, ⟨_, l, rfl, h1, h2, _⟩ | ⟨_, _, rfl⟩⟩ := rdP_forms h
    · cases l with
      | nil => exact h0 _ (.inr rfl) (by rw [g]; rfl)
      | cons x r =>
        rw [g] at hp
        rw [g]
        have hp2 : Pure Tryd.prog 9 [.str (sB s)] (.tuple [.is (((x :: r).map fun x => (x.box, x.colours)).flatMap zC) ((x :: r).map fun x => (x.box, x.colours)).length, .int .i64 e]) := by
          rw [← pck_zC, List.length_map]
          exact hp
        refine (ACalls.own hp2 lay_oth (by kernel_rfl) (by rw [List.length_map]; exact Nat.succ_pos _) (fun y hy => ?_)).mono fun v H' hv => ?_
        · obtain ⟨z, hz, rfl⟩ := List.mem_map.1 hy
          have h5 := (pckB_some (pcks_R h2 z hz).2.2).2.1
          intro h6
          have h7 : z.colours = [] := h6
          rw [h7] at h5
          exact absurd h5 (by decide)
        · obtain ⟨j0, o, rfl, hz⟩ := hv
          refine ⟨_, j0, o, _, rfl, ?_, hz, ?_, fun n hn => ?_⟩
          · simp only [List.length_map]
            exact XOk.own _ _ _
          · simp only [List.length_map]
            exact Nat.le_trans h1 (by decide)
          · obtain ⟨z, hz2, rfl⟩ := List.mem_map.1 hn
            obtain ⟨y, hy, rfl⟩ := List.mem_map.1 hz2
            exact Nat.le_trans (pckB_some (pcks_R h2 y hy).2.2).2.2 (by decide)
    · exact h0 _ (.inl rfl) (by rw [g])
theorem bookOwns_ok (r : List Rpt) (c : List Crd) (p : List Pck) (hr : r.length ≤ bigN) (hrs : ∀ x ∈ r, x.strokes.length ≤ bigN) (hc : c.length ≤ bigN) (hp : p.length ≤ bigN) (hps : ∀ x ∈ p, x.colours.length ≤ bigN) (s : Bs) : Pure Tryd.prog 3 [rptsV r, crdsV c, pcksV p, .str (sB s)] (.bool true) := by
  refine Pure.start (N := 184) Tryd.func3 rfl rfl (Nat.le_of_ble_eq_true rfl) ?_
  refine AWp.seq ?_
  refine AWp.region ?_
  refine AList.c 8 rfl rfl rfl (OpJ.assign rfl rfl) ?_
  refine AList.nil ?_
  refine AWp.seq ?_
  refine AWp.seq ?_
  refine AWp.region ?_
  refine AList.c 26 rfl rfl rfl (OpJ.move rfl rfl) ?_
  refine AList.c 27 rfl rfl rfl (OpJ.move rfl rfl) ?_
  refine AList.c 28 rfl rfl rfl (OpJ.move rfl rfl) ?_
  refine AList.c 29 rfl rfl rfl (OpJ.callP (many_ok r c p hr hp) rfl rfl rfl rfl rf4) ?_
  refine AList.c 30 rfl rfl rfl (OpJ.move rfl rfl) ?_
  refine AList.g 31 30 rfl rfl rfl rfl rfl rfl rfl [(3, _)] (fun h => And.intro (.inl rfl) (trivial)) (fun h => (OpJ.move rfl rfl)) ?_
  refine AList.g 32 30 rfl rfl rfl rfl rfl rfl rfl [(31, _)] (fun h => And.intro (.inr ⟨_, rfl, h⟩) (trivial)) (fun h => (OpJ.lenStr rfl rfl un9)) ?_
  refine AList.g 33 30 rfl rfl rfl rfl rfl rfl rfl [(32, _)] (fun h => And.intro (.inr ⟨_, rfl, h⟩) (trivial)) (fun h => (OpJ.gtr rfl rfl rfl)) ?_
  refine AList.c 34 rfl rfl rfl (OpJ.or_ rfl rfl rfl ?_) ?_
  · first | (intro h; rw [h]; rfl) | (intro h; simp_all)
  refine AList.nil ?_
  refine AWp.cond _ rfl (fun hc0 => ?_) (fun hc0 => ?_)
  · skip
    refine AWp.seq ?_
    refine AWp.region ?_
    refine AList.c 35 rfl rfl rfl (OpJ.callP (alive_ok) rfl rfl rfl rfl rf5) ?_
    refine AList.c 8 rfl rfl rfl (OpJ.assign rfl rfl) ?_
    refine AList.nil ?_
    refine AWp.ret ?_
    exact Fin.oneE rfl rfl rfl
  · skip
    refine AWp.skip ?_
    refine AWp.seq ?_
    have hmm := many_not (Bool.or_eq_false_iff.1 hc0).1
    obtain ⟨m1, m2, m3, m4, m5⟩ := hmm
    refine AWp.region ?_
    refine AList.c 9 rfl rfl rfl (OpJ.assign rfl rfl) ?_
    refine AList.nil ?_
    refine AWp.seq ?_
    refine AWp.region ?_
    refine AList.c 10 rfl rfl rfl (OpJ.assign rfl rfl) ?_
    refine AList.nil ?_
    refine AWp.seq ?_
    refine AWp.region ?_
    refine AList.c 36 rfl rfl rfl (OpJ.buildOwn rfl slz22 (by decide) rfl rfl) ?_
    refine AList.c 37 rfl rfl rfl (OpJ.move rfl rfl) ?_
    refine AList.c 38 rfl rfl rfl (OpJ.appendRow (i := 0) (len := 0) (cs := []) rfl rfl rfl slz22 sl22 rfl ?_ (asrc_is (xs := (r).flatMap Rpt.cells) (n := (r).length) (sz := 6) (AF.flat_len (c := 6) (fun _ => rfl) (r))) (oneAll (fun _ => rfl) (r)) by33 (by decide) ?_) ?_
    · rfl
    · show (2 * (0 + (r).length) + 192) * 64 ≤ 281474976710656; omega
    refine AList.c 39 rfl rfl rfl (OpJ.buildOwn rfl slz23 (by decide) rfl rfl) ?_
    refine AList.c 40 rfl rfl rfl (OpJ.move rfl rfl) ?_
    refine AList.c 41 rfl rfl rfl (OpJ.appendRow (i := 2) (len := 0) (cs := []) rfl rfl rfl slz23 sl23 rfl ?_ (asrc_is (xs := (c).flatMap Crd.cells) (n := (c).length) (sz := 5) (AF.flat_len (c := 5) (fun _ => rfl) (c))) (oneAll (fun _ => rfl) (c)) by76 (by decide) ?_) ?_
    · rfl
    · show (2 * (0 + (c).length) + 192) * 40 ≤ 281474976710656; omega
    refine AList.c 42 rfl rfl rfl (OpJ.buildOwn rfl slz24 (by decide) rfl rfl) ?_
    refine AList.c 43 rfl rfl rfl (OpJ.move rfl rfl) ?_
    refine AList.c 44 rfl rfl rfl (OpJ.appendRow (i := 4) (len := 0) (cs := []) rfl rfl rfl slz24 sl24 rfl ?_ (asrc_is (xs := (p).flatMap Pck.cells) (n := (p).length) (sz := 2) (AF.flat_len (c := 2) (fun _ => rfl) (p))) (oneAll (fun _ => rfl) (p)) by36 (by decide) ?_) ?_
    · rfl
    · show (2 * (0 + (p).length) + 192) * 32 ≤ 281474976710656; omega
    refine AList.c 11 rfl rfl rfl (OpJ.assign rfl rfl) ?_
    refine AList.c 12 rfl rfl rfl (OpJ.assign rfl rfl) ?_
    refine AList.c 13 rfl rfl rfl (OpJ.assign rfl rfl) ?_
    refine AList.nil ?_
    refine AWp.seq ?_
    refine AWp.seq ?_
    refine AWp.freeze 3 rfl (allP_map _) ?_
    refine AWp.to (To.done (H2 := [Blk.row ((r.flatMap Rpt.cells).map .p) 33, Blk.row ((p.flatMap Pck.cells).map .p) 36]) (S := [(0, .p (rptsV r)), (1, .p (crdsV c)), (2, .p (pcksV p)), (3, .p (.str (sB s))), (9, .p .nilSlice), (10, .p .nilSlice), (11, .row 0 (0 + r.length)), (12, .p (.is (c.flatMap Crd.cells) (0 + c.length))), (13, .row 1 (0 + p.length))]) [1, 5] rfl (by repeat (first | exact Sub.nil | refine Sub.cons rfl ?_)) (by show [Blk.row (renL _ ((r.flatMap Rpt.cells).map V.p)) _, Blk.row (renL _ ((p.flatMap Pck.cells).map V.p)) _] = _; rw [renL_pure, renL_pure])) ?_
    refine AWp.region ?_
    refine AList.c 45 rfl rfl rfl (OpJ.move rfl rfl) ?_
    refine AList.c 46 rfl rfl rfl (OpJ.lenSlice rfl rfl sl22 rfl) ?_
    refine AList.c 47 rfl rfl rfl (OpJ.move rfl rfl) ?_
    refine AList.nil ?_
    refine AWp.block ?_
    refine AWp.loopHL [0, 1, 2, 3, 8, 10, 11, 12, 13, 15, 16, 17, 18, 19, 20, 21, 22, 23, 24, 25, 46, 61, 62, 63, 64, 65, 66, 67, 68, 69, 70, 71, 72, 73, 74, 75, 76, 77, 79, 81, 83, 84, 85, 86, 87, 88, 89, 90, 91, 92, 93, 94, 95, 96, 97, 98, 99, 100, 101, 102, 103, 104, 105, 106, 107, 108, 109, 110, 111, 112, 113, 114, 115, 116, 117, 118, 119, 120, 121, 122, 123, 124, 125, 126, 127, 128, 129, 130, 131, 132, 133, 134, 135, 136, 137, 138, 139, 140, 141, 142, 143, 144, 145, 146, 147, 148, 149, 150, 151, 152, 153, 154, 155, 156, 157, 158, 159, 160, 161, 162, 163, 164, 165, 166, 167, 168, 169, 170, 171, 172, 173, 174, 175, 176, 177, 178, 179, 180, 181, 182, 183] (fun g => [(47, .p (.int .i64 ((g : Nat) : Int))), (9, accV 2 g)]) (fun g => [Blk.row ((r.flatMap Rpt.cells).map .p) 33, Blk.row ((p.flatMap Pck.cells).map .p) 36, accB (((r.take g).flatMap stC).map .p) 29 g]) (fun g => g ≤ r.length) (fun g => r.length - g) 0 (Nat.zero_le _) (To.pad.trans (To.sub (Sub.chk (Sub.cons rfl (Sub.cons rfl Sub.nil))))) (fun i hil => ?_)
    refine AWp.seq ?_
    refine AWp.region ?_
    refine AList.c 48 rfl rfl rfl (OpJ.lss rfl rfl rfl) ?_
    refine AList.nil ?_
    refine AWp.seq ?_
    refine AWp.cond _ rfl (fun hc1 => ?_) (fun hc1 => ?_)
    · skip
      have hi0 : i < r.length := by have h := of_decide_eq_true hc1; omega
      refine AWp.skip ?_
      refine AWp.seq ?_
      refine AWp.block ?_
      refine AWp.seq ?_
      refine AWp.region ?_
      refine AList.c 49 rfl rfl rfl (OpJ.move rfl rfl) ?_
      refine AList.c 14 rfl rfl rfl (OpJ.assign rfl rfl) ?_
      refine AList.nil ?_
      refine AWp.region ?_
      refine AList.c 50 rfl rfl rfl (OpJ.move rfl rfl) ?_
      refine AList.c 51 rfl rfl rfl (OpJ.buildOwn rfl slz29 (by decide) rfl rfl) ?_
      refine AList.c 52 rfl rfl rfl (OpJ.move rfl rfl) ?_
      refine AList.c 53 rfl rfl rfl (OpJ.move rfl rfl) ?_
      refine AList.c 54 rfl rfl rfl (OpJ.indexRow rfl rfl rfl sl22 el22 (by omega)) ?_
      refine AList.c 55 rfl rfl rfl (OpJ.fieldAddr rfl rfl fd33_1 rfl) ?_
      refine AList.c 56 rfl rfl rfl (OpJ.loadFlat (f := Rpt.cells) (c := 6) (k := i) (j := 1) (xs := r) (v := (stksV (gt Rpt.d r i).strokes)) rfl rfl ty29 rfl rfl (by omega) (fun _ => rfl) (by omega) (by decide) (by rw [gt_get Rpt.d _ (by omega)]; rfl)) ?_
      have hs12 := m4 (gt Rpt.d r i) (gt_mem Rpt.d hi0)
      refine AList.c 57 rfl rfl rfl (OpJ.appendRow (i := 3) (len := 0) (cs := []) rfl rfl rfl slz29 sl29 rfl ?_ (asrc_is (xs := ((gt Rpt.d r i).strokes).flatMap Stk.cells) (n := ((gt Rpt.d r i).strokes).length) (sz := 4) (AF.flat_len (c := 4) (fun _ => rfl) ((gt Rpt.d r i).strokes))) (oneAll (fun _ => rfl) ((gt Rpt.d r i).strokes)) by65 (by decide) ?_) ?_
      · rfl
      · show (2 * (0 + ((gt Rpt.d r i).strokes).length) + 192) * 32 ≤ 281474976710656; omega
      refine AList.freeze 4 rfl (allP_map _) ?_
      refine AList.to (To.sub (T2 := [(57, .p (.is ((gt Rpt.d r i).strokes.flatMap Stk.cells) (0 + (gt Rpt.d r i).strokes.length))), (50, accV 2 i), (46, _), (47, _), (0, .p (rptsV r)), (1, .p (crdsV c)), (2, .p (pcksV p)), (3, .p (.str (sB s))), (10, .p .nilSlice), (11, .row 0 (0 + r.length)), (12, .p (.is (c.flatMap Crd.cells) (0 + c.length))), (13, .row 1 (0 + p.length))]) (by repeat (first | exact Sub.nil | refine Sub.cons rfl ?_ | refine Sub.cons (frzV_acc (by decide) _ _) ?_))) ?_
      refine AList.c 58 rfl rfl rfl (OpJ.buildImm rfl slz27 (by decide) rfl rfl rfl) ?_
      refine AList.c 59 rfl rfl rfl (OpJ.appendAcc rfl rfl rfl slz27 sl27 rfl ?_ rfl (by decide) rfl by29 (by decide) ?_) ?_
      · rw [List.length_map, AF.flat_len (c := 1) (fun _ => rfl), List.length_take, Nat.min_eq_left (by omega)]; rfl
      · show (2 * (i + 1) + 192) * 24 ≤ 281474976710656; omega
      refine AList.c 9 rfl rfl rfl (OpJ.assign rfl rfl) ?_
      refine AList.nil ?_
      refine AWp.region ?_
      refine AList.c 60 rfl rfl rfl (OpJ.add (m := ((i + 1 : Nat) : Int)) rfl rfl rfl ((i64ok ?_).trans ?_)) ?_
      · omega
      · omega
      refine AList.c 47 rfl rfl rfl (OpJ.move rfl rfl) ?_
      refine AList.nil ?_
      refine ⟨i + 1, ?_, ?_, ?_⟩
      · exact hi0
      · omega
      have eL : (r.take (i + 1)).flatMap stC = (r.take i).flatMap stC ++ stC (gt Rpt.d r i) := by rw [List.take_succ_eq_append_getElem hi0, gt_get Rpt.d i hi0, List.flatMap_append]; simp
      rw [eL]
      refine To.done [0, 1, 5] rfl (by repeat (first | exact Sub.nil | refine Sub.cons rfl ?_)) ?_
      show [Blk.row (renL _ _) _, Blk.row (renL _ _) _, Blk.row (renL _ (_ ++ _)) _] = [Blk.row _ _, Blk.row _ _, Blk.row _ _]
      rw [renL_app, renL_pure, renL_pure, renL_pure, List.map_append]
      rfl
    · skip
      have hie : i = r.length := by have h := of_decide_eq_false hc1; omega
      subst hie
      rw [List.take_length]
      refine AWp.to (To.accD 9 2 r.length (xs := r.flatMap stC) rfl rfl (fun h => by rw [List.length_eq_zero_iff.1 h]; rfl)) ?_
      refine AWp.to (To.done (H2 := [Blk.row ((r.flatMap Rpt.cells).map .p) 33, Blk.row ((p.flatMap Pck.cells).map .p) 36]) (S := [(0, .p (rptsV r)), (1, .p (crdsV c)), (2, .p (pcksV p)), (3, .p (.str (sB s))), (9, .p (.is (r.flatMap stC) r.length)), (10, .p .nilSlice), (11, .row 0 (0 + r.length)), (12, .p (.is (c.flatMap Crd.cells) (0 + c.length))), (13, .row 1 (0 + p.length))]) [0, 1] rfl (by repeat (first | exact Sub.nil | refine Sub.cons rfl ?_)) (by show [Blk.row (renL _ ((r.flatMap Rpt.cells).map V.p)) _, Blk.row (renL _ ((p.flatMap Pck.cells).map V.p)) _] = _; rw [renL_pure, renL_pure])) ?_
      refine AWp.exit ?_
      refine AWp.seq ?_
      refine AWp.seq ?_
      refine AWp.region ?_
      refine AList.c 61 rfl rfl rfl (OpJ.move rfl rfl) ?_
      refine AList.c 62 rfl rfl rfl (OpJ.lenSlice rfl rfl sl24 rfl) ?_
      refine AList.c 63 rfl rfl rfl (OpJ.move rfl rfl) ?_
      refine AList.nil ?_
      refine AWp.block ?_
      refine AWp.loopHL [0, 1, 2, 3, 8, 9, 11, 12, 13, 16, 17, 18, 19, 20, 21, 22, 23, 24, 25, 62, 77, 79, 81, 83, 84, 85, 86, 87, 88, 89, 90, 91, 92, 93, 94, 95, 96, 97, 98, 99, 100, 101, 102, 103, 104, 105, 106, 107, 108, 109, 110, 111, 112, 113, 114, 115, 116, 117, 118, 119, 120, 121, 122, 123, 124, 125, 126, 127, 128, 129, 130, 131, 132, 133, 134, 135, 136, 137, 138, 139, 140, 141, 142, 143, 144, 145, 146, 147, 148, 149, 150, 151, 152, 153, 154, 155, 156, 157, 158, 159, 160, 161, 162, 163, 164, 165, 166, 167, 168, 169, 170, 171, 172, 173, 174, 175, 176, 177, 178, 179, 180, 181, 182, 183] (fun g => [(63, .p (.int .i64 ((g : Nat) : Int))), (10, accV 2 g)]) (fun g => [Blk.row ((r.flatMap Rpt.cells).map .p) 33, Blk.row ((p.flatMap Pck.cells).map .p) 36, accB (((p.take g).flatMap clC).map .p) 34 g]) (fun g => g ≤ p.length) (fun g => p.length - g) 0 (Nat.zero_le _) (To.pad.trans (To.sub (Sub.chk (Sub.cons rfl (Sub.cons rfl Sub.nil))))) (fun i hil => ?_)
      refine AWp.seq ?_
      refine AWp.region ?_
      refine AList.c 64 rfl rfl rfl (OpJ.lss rfl rfl rfl) ?_
      refine AList.nil ?_
      refine AWp.seq ?_
      refine AWp.cond _ rfl (fun hc2 => ?_) (fun hc2 => ?_)
      · skip
        have hi0 : i < p.length := by have h := of_decide_eq_true hc2; omega
        refine AWp.skip ?_
        refine AWp.seq ?_
        refine AWp.block ?_
        refine AWp.seq ?_
        refine AWp.region ?_
        refine AList.c 65 rfl rfl rfl (OpJ.move rfl rfl) ?_
        refine AList.c 15 rfl rfl rfl (OpJ.assign rfl rfl) ?_
        refine AList.nil ?_
        refine AWp.region ?_
        refine AList.c 66 rfl rfl rfl (OpJ.move rfl rfl) ?_
        refine AList.c 67 rfl rfl rfl (OpJ.buildOwn rfl slz34 (by decide) rfl rfl) ?_
        refine AList.c 68 rfl rfl rfl (OpJ.move rfl rfl) ?_
        refine AList.c 69 rfl rfl rfl (OpJ.move rfl rfl) ?_
        refine AList.c 70 rfl rfl rfl (OpJ.indexRow rfl rfl rfl sl24 el24 (by omega)) ?_
        refine AList.c 71 rfl rfl rfl (OpJ.fieldAddr rfl rfl fd36_1 rfl) ?_
        refine AList.c 72 rfl rfl rfl (OpJ.loadFlat (f := Pck.cells) (c := 2) (k := i) (j := 1) (xs := p) (v := (intsV (gt Pck.d p i).colours)) rfl rfl ty34 rfl rfl (by omega) (fun _ => rfl) (by omega) (by decide) (by rw [gt_get Pck.d _ (by omega)]; rfl)) ?_
        have hs60 := m5 (gt Pck.d p i) (gt_mem Pck.d hi0)
        refine AList.c 73 rfl rfl rfl (OpJ.appendRow (i := 3) (len := 0) (cs := []) rfl rfl rfl slz34 sl34 rfl ?_ (asrc_is (xs := ((gt Pck.d p i).colours).flatMap intC) (n := ((gt Pck.d p i).colours).length) (sz := 1) (AF.flat_len (c := 1) (fun _ => rfl) ((gt Pck.d p i).colours))) (oneAll (fun _ => rfl) ((gt Pck.d p i).colours)) by3 (by decide) ?_) ?_
        · rfl
        · show (2 * (0 + ((gt Pck.d p i).colours).length) + 192) * 8 ≤ 281474976710656; omega
        refine AList.freeze 4 rfl (allP_map _) ?_
        refine AList.to (To.sub (T2 := [(73, .p (.is ((gt Pck.d p i).colours.flatMap intC) (0 + (gt Pck.d p i).colours.length))), (66, accV 2 i), (62, _), (63, _), (0, .p (rptsV r)), (1, .p (crdsV c)), (2, .p (pcksV p)), (3, .p (.str (sB s))), (9, .p (.is (r.flatMap stC) r.length)), (11, .row 0 (0 + r.length)), (12, .p (.is (c.flatMap Crd.cells) (0 + c.length))), (13, .row 1 (0 + p.length))]) (by repeat (first | exact Sub.nil | refine Sub.cons rfl ?_ | refine Sub.cons (frzV_acc (by decide) _ _) ?_))) ?_
        refine AList.c 74 rfl rfl rfl (OpJ.buildImm rfl slz28 (by decide) rfl rfl rfl) ?_
        refine AList.c 75 rfl rfl rfl (OpJ.appendAcc rfl rfl rfl slz28 sl28 rfl ?_ rfl (by decide) rfl by34 (by decide) ?_) ?_
        · rw [List.length_map, AF.flat_len (c := 1) (fun _ => rfl), List.length_take, Nat.min_eq_left (by omega)]; rfl
        · show (2 * (i + 1) + 192) * 24 ≤ 281474976710656; omega
        refine AList.c 10 rfl rfl rfl (OpJ.assign rfl rfl) ?_
        refine AList.nil ?_
        refine AWp.region ?_
        refine AList.c 76 rfl rfl rfl (OpJ.add (m := ((i + 1 : Nat) : Int)) rfl rfl rfl ((i64ok ?_).trans ?_)) ?_
        · omega
        · omega
        refine AList.c 63 rfl rfl rfl (OpJ.move rfl rfl) ?_
        refine AList.nil ?_
        refine ⟨i + 1, ?_, ?_, ?_⟩
        · exact hi0
        · omega
        have eL : (p.take (i + 1)).flatMap clC = (p.take i).flatMap clC ++ clC (gt Pck.d p i) := by rw [List.take_succ_eq_append_getElem hi0, gt_get Pck.d i hi0, List.flatMap_append]; simp
        rw [eL]
        refine To.done [0, 1, 5] rfl (by repeat (first | exact Sub.nil | refine Sub.cons rfl ?_)) ?_
        show [Blk.row (renL _ _) _, Blk.row (renL _ _) _, Blk.row (renL _ (_ ++ _)) _] = [Blk.row _ _, Blk.row _ _, Blk.row _ _]
        rw [renL_app, renL_pure, renL_pure, renL_pure, List.map_append]
        rfl
      · skip
        have hie : i = p.length := by have h := of_decide_eq_false hc2; omega
        subst hie
        rw [List.take_length]
        refine AWp.to (To.accD 10 2 p.length (xs := p.flatMap clC) rfl rfl (fun h => by rw [List.length_eq_zero_iff.1 h]; rfl)) ?_
        refine AWp.to (To.done (H2 := [Blk.row ((r.flatMap Rpt.cells).map .p) 33, Blk.row ((p.flatMap Pck.cells).map .p) 36]) (S := [(0, .p (rptsV r)), (1, .p (crdsV c)), (2, .p (pcksV p)), (3, .p (.str (sB s))), (9, .p (.is (r.flatMap stC) r.length)), (10, .p (.is (p.flatMap clC) p.length)), (11, .row 0 (0 + r.length)), (12, .p (.is (c.flatMap Crd.cells) (0 + c.length))), (13, .row 1 (0 + p.length))]) [0, 1] rfl (by repeat (first | exact Sub.nil | refine Sub.cons rfl ?_)) (by show [Blk.row (renL _ ((r.flatMap Rpt.cells).map V.p)) _, Blk.row (renL _ ((p.flatMap Pck.cells).map V.p)) _] = _; rw [renL_pure, renL_pure])) ?_
        refine AWp.exit ?_
        refine AWp.seq ?_
        refine AWp.region ?_
        refine AList.c 77 rfl rfl rfl (OpJ.move rfl rfl) ?_
        refine AList.c 78 rfl rfl rfl (OpJ.callP (writeReports_ok r hr hrs) rfl rfl rfl rfl rf6) ?_
        refine AList.nil ?_
        refine AWp.seq ?_
        refine AWp.region ?_
        refine AList.c 79 rfl rfl rfl (OpJ.move rfl rfl) ?_
        refine AList.c 80 rfl rfl rfl (OpJ.callP (writeCards_ok c hc) rfl rfl rfl rfl rf7) ?_
        refine AList.nil ?_
        refine AWp.seq ?_
        refine AWp.region ?_
        refine AList.c 81 rfl rfl rfl (OpJ.move rfl rfl) ?_
        refine AList.c 82 rfl rfl rfl (OpJ.callP (writePacks_ok p hp hps) rfl rfl rfl rfl rf8) ?_
        refine AList.nil ?_
        refine AWp.seq ?_
        refine AWp.seq ?_
        refine AWp.region ?_
        refine AList.c 83 rfl rfl rfl (OpJ.move rfl rfl) ?_
        refine AList.c 84 rfl rfl rfl (OpJ.lenSlice rfl rfl sl22 rfl) ?_
        refine AList.c 85 rfl rfl rfl (OpJ.move rfl rfl) ?_
        refine AList.nil ?_
        refine AWp.block ?_
        refine AWp.loopHL [0, 1, 2, 3, 8, 9, 10, 11, 12, 13, 17, 18, 19, 20, 21, 22, 23, 24, 25, 84, 97, 98, 99, 100, 101, 102, 103, 104, 105, 106, 107, 108, 109, 110, 111, 112, 113, 114, 115, 116, 117, 118, 119, 120, 121, 122, 123, 124, 125, 126, 127, 128, 129, 130, 131, 132, 133, 134, 135, 136, 137, 138, 139, 140, 141, 142, 143, 144, 145, 146, 147, 148, 149, 150, 151, 152, 153, 154, 155, 156, 157, 158, 159, 160, 161, 162, 163, 164, 165, 166, 167, 168, 169, 170, 171, 172, 173, 174, 175, 176, 177, 178, 179, 180, 181, 182, 183] (fun g => [(85, .p (.int .i64 ((g : Nat) : Int)))]) (fun g => [Blk.row ((r.flatMap Rpt.cells).map .p) 33, Blk.row ((p.flatMap Pck.cells).map .p) 36]) (fun g => g ≤ r.length) (fun g => r.length - g) 0 (Nat.zero_le _) (To.sub (by repeat (first | exact Sub.nil | refine Sub.cons rfl ?_))) (fun i hil => ?_)
        refine AWp.seq ?_
        refine AWp.region ?_
        refine AList.c 86 rfl rfl rfl (OpJ.lss rfl rfl rfl) ?_
        refine AList.nil ?_
        refine AWp.seq ?_
        refine AWp.cond _ rfl (fun hc3 => ?_) (fun hc3 => ?_)
        · skip
          have hi0 : i < r.length := by have h := of_decide_eq_true hc3; omega
          refine AWp.skip ?_
          refine AWp.seq ?_
          refine AWp.block ?_
          refine AWp.seq ?_
          refine AWp.region ?_
          refine AList.c 87 rfl rfl rfl (OpJ.move rfl rfl) ?_
          refine AList.c 16 rfl rfl rfl (OpJ.assign rfl rfl) ?_
          refine AList.nil ?_
          refine AWp.region ?_
          refine AList.c 88 rfl rfl rfl (OpJ.move rfl rfl) ?_
          refine AList.c 89 rfl rfl rfl (OpJ.move rfl rfl) ?_
          refine AList.c 90 rfl rfl rfl (OpJ.move rfl rfl) ?_
          refine AList.c 91 rfl rfl rfl (OpJ.move rfl rfl) ?_
          refine AList.c 92 rfl rfl rfl (OpJ.indexG (g := gt Rpt.d r) (gt_get _) rfl rfl rfl sl27 el27 rfl (fun _ => rfl) (by decide) hi0) ?_
          refine AList.c 93 rfl rfl rfl (OpJ.load (v := .p (.is ((gt Rpt.d r i).strokes.flatMap Stk.cells) (0 + (gt Rpt.d r i).strokes.length))) rfl rfl ty29 rfl) ?_
          refine AList.c 94 rfl rfl rfl (OpJ.indexRow rfl rfl rfl sl22 el22 (by omega)) ?_
          refine AList.c 95 rfl rfl rfl (OpJ.fieldAddr rfl rfl fd33_1 rfl) ?_
          refine AList.c0 rfl rfl (OpJ.storeRow (f := Rpt.cells) (c := 6) (k := i) (j := 1) (xs := r) (z := (gt Rpt.d r i)) (ws := [.is ((gt Rpt.d r i).strokes.flatMap Stk.cells) (0 + (gt Rpt.d r i).strokes.length)]) rfl rfl rfl rfl rfl ty29 rfl rfl rfl (by omega) (fun _ => rfl) hi0 (by show 1 + 1 ≤ 6; decide) (by rw [gt_get Rpt.d _ hi0, Nat.zero_add]; rfl)) ?_
          refine AList.nil ?_
          refine AWp.region ?_
          refine AList.c 96 rfl rfl rfl (OpJ.add (m := ((i + 1 : Nat) : Int)) rfl rfl rfl ((i64ok ?_).trans ?_)) ?_
          · omega
          · omega
          refine AList.c 85 rfl rfl rfl (OpJ.move rfl rfl) ?_
          refine AList.nil ?_
          refine ⟨i + 1, ?_, ?_, ?_⟩
          · exact hi0
          · omega
          rw [set_gt Rpt.d hi0]
          exact To.sub (by repeat (first | exact Sub.nil | refine Sub.cons rfl ?_))
        · skip
          have hie : i = r.length := by have h := of_decide_eq_false hc3; omega
          subst hie
          refine AWp.exit ?_
          refine AWp.seq ?_
          refine AWp.seq ?_
          refine AWp.region ?_
          refine AList.c 97 rfl rfl rfl (OpJ.move rfl rfl) ?_
          refine AList.c 98 rfl rfl rfl (OpJ.lenSlice rfl rfl sl24 rfl) ?_
          refine AList.c 99 rfl rfl rfl (OpJ.move rfl rfl) ?_
          refine AList.nil ?_
          refine AWp.block ?_
          refine AWp.loopHL [0, 1, 2, 3, 8, 10, 11, 12, 13, 18, 19, 20, 21, 22, 23, 24, 25, 98, 111, 112, 113, 114, 115, 116, 117, 118, 119, 120, 121, 122, 123, 124, 125, 126, 127, 128, 129, 130, 131, 132, 133, 134, 135, 136, 137, 138, 139, 140, 141, 142, 143, 144, 145, 146, 147, 148, 149, 150, 151, 152, 153, 154, 155, 156, 157, 158, 159, 160, 161, 162, 163, 164, 165, 166, 167, 168, 169, 170, 171, 172, 173, 174, 175, 176, 177, 178, 179, 180, 181, 182, 183] (fun g => [(99, .p (.int .i64 ((g : Nat) : Int)))]) (fun g => [Blk.row ((r.flatMap Rpt.cells).map .p) 33, Blk.row ((p.flatMap Pck.cells).map .p) 36]) (fun g => g ≤ p.length) (fun g => p.length - g) 0 (Nat.zero_le _) (To.sub (by repeat (first | exact Sub.nil | refine Sub.cons rfl ?_))) (fun i hil => ?_)
          refine AWp.seq ?_
          refine AWp.region ?_
          refine AList.c 100 rfl rfl rfl (OpJ.lss rfl rfl rfl) ?_
          refine AList.nil ?_
          refine AWp.seq ?_
          refine AWp.cond _ rfl (fun hc4 => ?_) (fun hc4 => ?_)
          · skip
            have hi0 : i < p.length := by have h := of_decide_eq_true hc4; omega
            refine AWp.skip ?_
            refine AWp.seq ?_
            refine AWp.block ?_
            refine AWp.seq ?_
            refine AWp.region ?_
            refine AList.c 101 rfl rfl rfl (OpJ.move rfl rfl) ?_
            refine AList.c 17 rfl rfl rfl (OpJ.assign rfl rfl) ?_
            refine AList.nil ?_
            refine AWp.region ?_
            refine AList.c 102 rfl rfl rfl (OpJ.move rfl rfl) ?_
            refine AList.c 103 rfl rfl rfl (OpJ.move rfl rfl) ?_
            refine AList.c 104 rfl rfl rfl (OpJ.move rfl rfl) ?_
            refine AList.c 105 rfl rfl rfl (OpJ.move rfl rfl) ?_
            refine AList.c 106 rfl rfl rfl (OpJ.indexG (g := gt Pck.d p) (gt_get _) rfl rfl rfl sl28 el28 rfl (fun _ => rfl) (by decide) hi0) ?_
            refine AList.c 107 rfl rfl rfl (OpJ.load (v := .p (.is ((gt Pck.d p i).colours.flatMap intC) (0 + (gt Pck.d p i).colours.length))) rfl rfl ty34 rfl) ?_
            refine AList.c 108 rfl rfl rfl (OpJ.indexRow rfl rfl rfl sl24 el24 (by omega)) ?_
            refine AList.c 109 rfl rfl rfl (OpJ.fieldAddr rfl rfl fd36_1 rfl) ?_
            refine AList.c0 rfl rfl (OpJ.storeRow (f := Pck.cells) (c := 2) (k := i) (j := 1) (xs := p) (z := (gt Pck.d p i)) (ws := [.is ((gt Pck.d p i).colours.flatMap intC) (0 + (gt Pck.d p i).colours.length)]) rfl rfl rfl rfl rfl ty34 rfl rfl rfl (by omega) (fun _ => rfl) hi0 (by show 1 + 1 ≤ 2; decide) (by rw [gt_get Pck.d _ hi0, Nat.zero_add]; rfl)) ?_
            refine AList.nil ?_
            refine AWp.region ?_
            refine AList.c 110 rfl rfl rfl (OpJ.add (m := ((i + 1 : Nat) : Int)) rfl rfl rfl ((i64ok ?_).trans ?_)) ?_
            · omega
            · omega
            refine AList.c 99 rfl rfl rfl (OpJ.move rfl rfl) ?_
            refine AList.nil ?_
            refine ⟨i + 1, ?_, ?_, ?_⟩
            · exact hi0
            · omega
            rw [set_gt Pck.d hi0]
            exact To.sub (by repeat (first | exact Sub.nil | refine Sub.cons rfl ?_))
          · skip
            have hie : i = p.length := by have h := of_decide_eq_false hc4; omega
            subst hie
            refine AWp.exit ?_
            refine AWp.seq ?_
            refine AWp.freeze 0 rfl (allP_map _) ?_
            refine AWp.freeze 1 rfl (allP_map _) ?_
            refine AWp.to (To.done (H2 := []) (S := [(0, .p (rptsV r)), (1, .p (crdsV c)), (2, .p (pcksV p)), (3, .p (.str (sB s))), (11, .p (.is (r.flatMap Rpt.cells) (0 + r.length))), (12, .p (.is (c.flatMap Crd.cells) (0 + c.length))), (13, .p (.is (p.flatMap Pck.cells) (0 + p.length)))]) [] rfl (by repeat (first | exact Sub.nil | refine Sub.cons rfl ?_)) rfl) ?_
            refine AWp.region ?_
            refine AList.c 112 rfl rfl rfl (OpJ.move rfl rfl) ?_
            refine AList.callX 113 (own_ok s) rfl rfl rfl rfl rfl rfl rfl rf9 (fun v H2 hQ2 => ?_)
            obtain ⟨xv, j0, o, ls, rfl, hx, hz, hls, hns⟩ := hQ2
            refine AList.c 111 rfl rfl rfl (OpJ.move rfl rfl) ?_
            refine AList.c 114 rfl rfl rfl (OpJ.extract rfl rfl rfl) ?_
            refine AList.c 115 rfl rfl rfl (OpJ.extract rfl rfl rfl) ?_
            refine AList.c 18 rfl rfl rfl (OpJ.assign rfl rfl) ?_
            refine AList.c 19 rfl rfl rfl (OpJ.assign rfl rfl) ?_
            refine AList.nil ?_
            refine AWp.seq ?_
            refine AWp.seq ?_
            refine AWp.region ?_
            refine AList.c 116 rfl rfl rfl (OpJ.move rfl rfl) ?_
            refine AList.c 117 rfl rfl rfl (OpJ.lenSlice rfl rfl sl24 hx.len) ?_
            refine AList.c 118 rfl rfl rfl (OpJ.move rfl rfl) ?_
            refine AList.nil ?_
            refine AWp.block ?_
            refine AWp.loopHL [0, 1, 2, 3, 8, 11, 12, 13, 18, 19, 22, 23, 24, 25, 117, 143, 144, 145, 146, 147, 148, 149, 150, 151, 152, 153, 154, 155, 156, 157, 158, 159, 160, 161, 162, 163, 164, 165, 166, 167, 168, 169, 170, 171, 172, 173, 174, 175, 176, 177, 178, 179, 180, 181, 182, 183] (fun (g : Nat × List Blk) => [(118, .p (.int .i64 ((g.1 : Nat) : Int)))]) (fun (g : Nat × List Blk) => g.2) (fun (g : Nat × List Blk) => g.1 ≤ ls.length ∧ ZnOk j0 o ls g.2) (fun (g : Nat × List Blk) => ls.length - g.1) (0, H2) ⟨Nat.zero_le _, hz⟩ (To.sub (by repeat (first | exact Sub.nil | refine Sub.cons rfl ?_))) (fun g hg => ?_)
            obtain ⟨i, H3⟩ := g
            obtain ⟨hil, hz3⟩ := hg
            dsimp only at hil hz3 ⊢
            refine AWp.seq ?_
            refine AWp.region ?_
            refine AList.c 119 rfl rfl rfl (OpJ.lss rfl rfl rfl) ?_
            refine AList.nil ?_
            refine AWp.seq ?_
            refine AWp.cond _ rfl (fun hc5 => ?_) (fun hc5 => ?_)
            · skip
              have hi0 : i < ls.length := by have h := of_decide_eq_true hc5; omega
              refine AWp.skip ?_
              refine AWp.seq ?_
              refine AWp.block ?_
              refine AWp.seq ?_
              refine AWp.region ?_
              refine AList.c 120 rfl rfl rfl (OpJ.move rfl rfl) ?_
              refine AList.c 20 rfl rfl rfl (OpJ.assign rfl rfl) ?_
              refine AList.nil ?_
              refine AWp.seq ?_
              obtain ⟨n, hn⟩ : ∃ n, ls[i]? = some n := ⟨_, List.getElem?_eq_getElem hi0⟩
              have hn1 := hns n (List.mem_of_getElem? hn)
              obtain ⟨cs1, e1, j1, q1, hb1, hb2, hb3, hb4⟩ := hz3 i n hn
              have hz4 := hz3.set (v := .p (.int .i64 (-1))) (p := o + i * 2) hb1 (fun i2 _ _ => by omega)
              refine AWp.region ?_
              refine AList.c 121 rfl rfl rfl (OpJ.move rfl rfl) ?_
              refine AList.c 122 rfl rfl rfl (OpJ.move rfl rfl) ?_
              refine AList.c 123 rfl rfl rfl (OpJ.indexSlice (kd := .i64) (n := ((i : Nat) : Int)) (v := .ptr j0 (o + i * 2)) rfl rfl rfl sl24 el24 hx.nc (by omega) (hx.ix i hi0)) ?_
              refine AList.c 124 rfl rfl rfl (OpJ.fieldAddr rfl rfl fd36_0 rfl) ?_
              refine AList.c0 rfl rfl (OpJ.store (H' := (H3.set j0 (.cells (cs1.set (o + i * 2) (.p (.int .i64 (-1)))) e1))) rfl rfl rfl rfl rfl ty3 rfl (st_zn hb1 (by omega))) ?_
              refine AList.nil ?_
              refine AWp.seq ?_
              generalize H3.set j0 (.cells (cs1.set (o + i * 2) (.p (.int .i64 (-1)))) e1) = H4 at hz4 ⊢
              obtain ⟨cs2, e2, j2, q2, hd1, hd2, hd3, hd4⟩ := hz4 i n hn
              refine AWp.region ?_
              refine AList.c 125 rfl rfl rfl (OpJ.move rfl rfl) ?_
              refine AList.c 126 rfl rfl rfl (OpJ.move rfl rfl) ?_
              refine AList.c 127 rfl rfl rfl (OpJ.indexSlice (kd := .i64) (n := ((i : Nat) : Int)) (v := .ptr j0 (o + i * 2)) rfl rfl rfl sl24 el24 hx.nc (by omega) (hx.ix i hi0)) ?_
              refine AList.c 128 rfl rfl rfl (OpJ.fieldAddr rfl rfl fd36_1 rfl) ?_
              refine AList.c 129 rfl rfl rfl (OpJ.load (v := .sl j2 q2 n) rfl rfl ty34 (ld_zn hd1 hd3)) ?_
              refine AList.c 130 rfl rfl rfl (OpJ.lenSlice rfl rfl sl34 rfl) ?_
              refine AList.c 131 rfl rfl rfl (OpJ.move rfl rfl) ?_
              refine AList.nil ?_
              refine AWp.block ?_
              refine AWp.loopHL [0, 1, 2, 3, 8, 11, 12, 13, 18, 19, 20, 22, 23, 24, 25, 117, 118, 119, 120, 121, 122, 123, 124, 125, 126, 127, 128, 129, 130, 142, 143, 144, 145, 146, 147, 148, 149, 150, 151, 152, 153, 154, 155, 156, 157, 158, 159, 160, 161, 162, 163, 164, 165, 166, 167, 168, 169, 170, 171, 172, 173, 174, 175, 176, 177, 178, 179, 180, 181, 182, 183] (fun (g : Nat × List Blk) => [(131, .p (.int .i64 ((g.1 : Nat) : Int)))]) (fun (g : Nat × List Blk) => g.2) (fun (g : Nat × List Blk) => g.1 ≤ n ∧ ZnOk j0 o ls g.2) (fun (g : Nat × List Blk) => n - g.1) (0, H4) ⟨Nat.zero_le _, hz4⟩ (To.sub (by repeat (first | exact Sub.nil | refine Sub.cons rfl ?_))) (fun g hg => ?_)
              obtain ⟨k, H5⟩ := g
              obtain ⟨hkl, hz5⟩ := hg
              dsimp only at hkl hz5 ⊢
              refine AWp.seq ?_
              refine AWp.region ?_
              refine AList.c 132 rfl rfl rfl (OpJ.lss rfl rfl rfl) ?_
              refine AList.nil ?_
              refine AWp.seq ?_
              refine AWp.cond _ rfl (fun hc6 => ?_) (fun hc6 => ?_)
              · skip
                have hk0 : k < n := by have h := of_decide_eq_true hc6; omega
                refine AWp.skip ?_
                refine AWp.seq ?_
                refine AWp.block ?_
                refine AWp.seq ?_
                refine AWp.region ?_
                refine AList.c 133 rfl rfl rfl (OpJ.move rfl rfl) ?_
                refine AList.c 21 rfl rfl rfl (OpJ.assign rfl rfl) ?_
                refine AList.nil ?_
                obtain ⟨cs3, e3, j3, q3, hf1, hf2, hf3, hf4⟩ := hz5 i n hn
                obtain ⟨⟨cs4, e4, hg1, hg2⟩, hg3⟩ := hf4 k hk0
                have hz6 := hz5.set (v := .p (.int .i64 (-1))) (p := q3 + k * 1) hg1 (fun i2 h1 h2 => by have h3 := hg3 i2 h1 h2; omega)
                refine AWp.region ?_
                refine AList.c 134 rfl rfl rfl (OpJ.move rfl rfl) ?_
                refine AList.c 135 rfl rfl rfl (OpJ.move rfl rfl) ?_
                refine AList.c 136 rfl rfl rfl (OpJ.indexSlice (kd := .i64) (n := ((i : Nat) : Int)) (v := .ptr j0 (o + i * 2)) rfl rfl rfl sl24 el24 hx.nc (by omega) (hx.ix i hi0)) ?_
                refine AList.c 137 rfl rfl rfl (OpJ.fieldAddr rfl rfl fd36_1 rfl) ?_
                refine AList.c 138 rfl rfl rfl (OpJ.load (v := .sl j3 q3 n) rfl rfl ty34 (ld_zn hf1 hf3)) ?_
                refine AList.c 139 rfl rfl rfl (OpJ.move rfl rfl) ?_
                refine AList.c 140 rfl rfl rfl (OpJ.indexSlice (kd := .i64) (n := ((k : Nat) : Int)) (v := .ptr j3 (q3 + k * 1)) rfl rfl rfl sl34 el34 (fun _ _ h => by cases h) (by omega) (if_pos hk0)) ?_
                refine AList.c0 rfl rfl (OpJ.store (H' := (H5.set j3 (.cells (cs4.set (q3 + k * 1) (.p (.int .i64 (-1)))) e4))) rfl rfl rfl rfl rfl ty3 rfl (st_zn hg1 (by omega))) ?_
                refine AList.nil ?_
                generalize H5.set j3 (.cells (cs4.set (q3 + k * 1) (.p (.int .i64 (-1)))) e4) = H6 at hz6 ⊢
                refine AWp.region ?_
                refine AList.c 141 rfl rfl rfl (OpJ.add (m := ((k + 1 : Nat) : Int)) rfl rfl rfl ((i64ok ?_).trans ?_)) ?_
                · omega
                · omega
                refine AList.c 131 rfl rfl rfl (OpJ.move rfl rfl) ?_
                refine AList.nil ?_
                refine ⟨(k + 1, H6), ?_, ?_, ?_⟩
                · exact ⟨hk0, hz6⟩
                · show n - (k + 1) < n - k
                  omega
                exact To.sub (by repeat (first | exact Sub.nil | refine Sub.cons rfl ?_))
              · skip
                refine AWp.exit ?_
                refine AWp.region ?_
                refine AList.c 142 rfl rfl rfl (OpJ.add (m := ((i + 1 : Nat) : Int)) rfl rfl rfl ((i64ok ?_).trans ?_)) ?_
                · omega
                · omega
                refine AList.c 118 rfl rfl rfl (OpJ.move rfl rfl) ?_
                refine AList.nil ?_
                refine ⟨(i + 1, H5), ?_, ?_, ?_⟩
                · exact ⟨hi0, hz5⟩
                · show ls.length - (i + 1) < ls.length - i
                  omega
                exact To.sub (by repeat (first | exact Sub.nil | refine Sub.cons rfl ?_))
            · skip
              refine AWp.exit ?_
              refine AWp.seq ?_
              refine AWp.to (To.done (H2 := []) (S := [(0, .p (rptsV r)), (1, .p (crdsV c)), (2, .p (pcksV p)), (3, .p (.str (sB s))), (11, .p (.is (r.flatMap Rpt.cells) (0 + r.length))), (12, .p (.is (c.flatMap Crd.cells) (0 + c.length))), (13, .p (.is (p.flatMap Pck.cells) (0 + p.length))), (19, .p (.int .i64 (rdP s).2))]) [] rfl (by repeat (first | exact Sub.nil | refine Sub.cons rfl ?_)) rfl) ?_
              refine AWp.region ?_
              refine AList.c 144 rfl rfl rfl (OpJ.move rfl rfl) ?_
              refine AList.c 145 rfl rfl rfl (OpJ.callP (readPacks_ok s) rfl rfl rfl rfl rf9) ?_
              refine AList.c 143 rfl rfl rfl (OpJ.move rfl rfl) ?_
              refine AList.c 146 rfl rfl rfl (OpJ.extract rfl rfl rfl) ?_
              refine AList.c 147 rfl rfl rfl (OpJ.extract rfl rfl rfl) ?_
              refine AList.c 22 rfl rfl rfl (OpJ.assign rfl rfl) ?_
              refine AList.c 23 rfl rfl rfl (OpJ.assign rfl rfl) ?_
              refine AList.nil ?_
              refine AWp.seq ?_
              refine AWp.region ?_
              refine AList.c 149 rfl rfl rfl (OpJ.move rfl rfl) ?_
              refine AList.c 150 rfl rfl rfl (OpJ.callP (rreadP_ok s) rfl rfl rfl rfl rf10) ?_
              refine AList.c 148 rfl rfl rfl (OpJ.move rfl rfl) ?_
              refine AList.c 151 rfl rfl rfl (OpJ.extract rfl rfl rfl) ?_
              refine AList.c 152 rfl rfl rfl (OpJ.extract rfl rfl rfl) ?_
              refine AList.c 24 rfl rfl rfl (OpJ.assign rfl rfl) ?_
              refine AList.c 25 rfl rfl rfl (OpJ.assign rfl rfl) ?_
              refine AList.nil ?_
              refine AWp.seq ?_
              refine AWp.region ?_
              refine AList.c 153 rfl rfl rfl (OpJ.move rfl rfl) ?_
              refine AList.c 154 rfl rfl rfl (OpJ.move rfl rfl) ?_
              refine AList.c 155 rfl rfl rfl (OpJ.callP (sameR_0 r hr hrs) rfl rfl rfl rfl rf11) ?_
              refine AList.c 156 rfl rfl rfl (OpJ.move rfl rfl) ?_
              refine AList.g 157 156 rfl rfl rfl rfl rfl rfl rfl [(12, _)] (fun h => And.intro (.inl rfl) (trivial)) (fun h => (OpJ.move rfl rfl)) ?_
              refine AList.g 158 156 rfl rfl rfl rfl rfl rfl rfl [(1, _)] (fun h => And.intro (.inl rfl) (trivial)) (fun h => (OpJ.move rfl rfl)) ?_
              refine AList.g 159 156 rfl rfl rfl rfl rfl rfl rfl [(157, _), (158, _)] (fun h => And.intro (.inr ⟨_, rfl, h⟩) (And.intro (.inr ⟨_, rfl, h⟩) (trivial))) (fun h => (OpJ.callP (sameC_0 c hc) rfl rfl rfl rfl rf12)) ?_
              refine AList.c 160 rfl rfl rfl (OpJ.and_ rfl rfl rfl ?_) ?_
              · first | (intro h; rw [h]; rfl) | (intro h; simp_all)
              refine AList.c 161 rfl rfl rfl (OpJ.move rfl rfl) ?_
              refine AList.g 162 161 rfl rfl rfl rfl rfl rfl rfl [(13, _)] (fun h => And.intro (.inl rfl) (trivial)) (fun h => (OpJ.move rfl rfl)) ?_
              refine AList.g 163 161 rfl rfl rfl rfl rfl rfl rfl [(2, _)] (fun h => And.intro (.inl rfl) (trivial)) (fun h => (OpJ.move rfl rfl)) ?_
              refine AList.g 164 161 rfl rfl rfl rfl rfl rfl rfl [(162, _), (163, _)] (fun h => And.intro (.inr ⟨_, rfl, h⟩) (And.intro (.inr ⟨_, rfl, h⟩) (trivial))) (fun h => (OpJ.callP (sameP_0 p hp hps) rfl rfl rfl rfl rf13)) ?_
              refine AList.c 165 rfl rfl rfl (OpJ.and_ rfl rfl rfl ?_) ?_
              · first | (intro h; rw [h]; rfl) | (intro h; simp_all)
              refine AList.c 166 rfl rfl rfl (OpJ.move rfl rfl) ?_
              refine AList.g 167 166 rfl rfl rfl rfl rfl rfl rfl [(19, _)] (fun h => And.intro (.inl rfl) (trivial)) (fun h => (OpJ.move rfl rfl)) ?_
              refine AList.g 168 166 rfl rfl rfl rfl rfl rfl rfl [(23, _)] (fun h => And.intro (.inl rfl) (trivial)) (fun h => (OpJ.move rfl rfl)) ?_
              refine AList.g 169 166 rfl rfl rfl rfl rfl rfl rfl [(167, _), (168, _)] (fun h => And.intro (.inr ⟨_, rfl, h⟩) (And.intro (.inr ⟨_, rfl, h⟩) (trivial))) (fun h => (OpJ.eql rfl rfl rfl)) ?_
              refine AList.c 170 rfl rfl rfl (OpJ.and_ rfl rfl rfl ?_) ?_
              · first | (intro h; rw [h]; rfl) | (intro h; simp_all)
              refine AList.c 171 rfl rfl rfl (OpJ.move rfl rfl) ?_
              refine AList.g 172 171 rfl rfl rfl rfl rfl rfl rfl [(23, _)] (fun h => And.intro (.inl rfl) (trivial)) (fun h => (OpJ.move rfl rfl)) ?_
              refine AList.g 173 171 rfl rfl rfl rfl rfl rfl rfl [(25, _)] (fun h => And.intro (.inl rfl) (trivial)) (fun h => (OpJ.move rfl rfl)) ?_
              refine AList.g 174 171 rfl rfl rfl rfl rfl rfl rfl [(172, _), (173, _)] (fun h => And.intro (.inr ⟨_, rfl, h⟩) (And.intro (.inr ⟨_, rfl, h⟩) (trivial))) (fun h => (OpJ.eql rfl rfl rfl)) ?_
              refine AList.c 175 rfl rfl rfl (OpJ.and_ rfl rfl rfl ?_) ?_
              · first | (intro h; rw [h]; rfl) | (intro h; simp_all)
              refine AList.c 176 rfl rfl rfl (OpJ.move rfl rfl) ?_
              refine AList.g 177 176 rfl rfl rfl rfl rfl rfl rfl [(22, _)] (fun h => And.intro (.inl rfl) (trivial)) (fun h => (OpJ.move rfl rfl)) ?_
              refine AList.g 178 176 rfl rfl rfl rfl rfl rfl rfl [(24, _)] (fun h => And.intro (.inl rfl) (trivial)) (fun h => (OpJ.move rfl rfl)) ?_
              refine AList.g 179 176 rfl rfl rfl rfl rfl rfl rfl [(177, _), (178, _)] (fun h => And.intro (.inr ⟨_, rfl, h⟩) (And.intro (.inr ⟨_, rfl, h⟩) (trivial))) (fun h => (OpJ.callP (sameP_self s) rfl rfl rfl rfl rf13)) ?_
              refine AList.c 180 rfl rfl rfl (OpJ.and_ rfl rfl rfl ?_) ?_
              · first | (intro h; rw [h]; rfl) | (intro h; simp_all)
              refine AList.c 181 rfl rfl rfl (OpJ.move rfl rfl) ?_
              refine AList.g 182 181 rfl rfl rfl rfl rfl rfl rfl [] (fun h => trivial) (fun h => (OpJ.callP (alive_ok) rfl rfl rfl rfl rf5)) ?_
              refine AList.c 183 rfl rfl rfl (OpJ.and_ rfl rfl rfl ?_) ?_
              · first | (intro h; rw [h]; rfl) | (intro h; simp_all)
              refine AList.c 8 rfl rfl rfl (OpJ.assign rfl rfl) ?_
              refine AList.nil ?_
              refine AWp.ret ?_
              refine Fin.oneE rfl rfl ?_
              simp
theorem bookOwns_law {x0 x1 x2 x3 : List PV} (h0 : TyL [.sl shR] x0) (h1 : TyL [.sl shC] x1) (h2 : TyL [.sl shP] x2) (h3 : TyL [.leaf .string] x3) : Pure Tryd.prog 3 [argP false x0, argP false x1, argP false x2, argP false x3] (.bool true) := by
  obtain ⟨r, rfl, hr, hrs⟩ := rpts_of h0
  obtain ⟨c, rfl, hc⟩ := crds_of h1
  obtain ⟨p, rfl, hp, hps⟩ := pcks_of h2
  obtain ⟨s, rfl⟩ := str_of h3
  exact bookOwns_ok r c p hr hrs hc hp hps s
end Go.Proofs.YtplofbjppcbchaaDoor
end
