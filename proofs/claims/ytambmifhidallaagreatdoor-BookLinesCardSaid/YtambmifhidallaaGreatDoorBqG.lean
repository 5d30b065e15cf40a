/-
  Chapter 14: more facts on types and functions, by the kernel.
  What the library's texts do: how many there are, where one is cut, whether there is one, all pieces.
  How many lines, and items, there are: the law.
-/
import Derived.Test.YtambmifhidallaaGreatDoorBqF
import Derived.Test.YtambmifhidallaaGreatDoorFaC
import Derived.Test.YtambmifhidallaaGreatDoorBqE
import Derived.Test.YtambmifhidallaaGreatDoorBqP
import Derived.Test.YtambmifhidallaaGreatDoorBqA
section
set_option maxRecDepth 100000
namespace Go.Proofs.YtambmifhidallaaGreatDoor
open Go.AF
theorem el22 : elI Tryz.prog 22 = some 1 := by kernel_rfl
theorem rf11 : realFn Tryz.prog 11 = true := by kernel_rfl
theorem rf13 : realFn Tryz.prog 13 = true := by kernel_rfl
theorem rf14 : realFn Tryz.prog 14 = true := by kernel_rfl
theorem rf15 : realFn Tryz.prog 15 = true := by kernel_rfl
theorem rf8 : realFn Tryz.prog 8 = true := by kernel_rfl
theorem rf9 : realFn Tryz.prog 9 = true := by kernel_rfl
theorem sl22 : isSl Tryz.prog 22 = true := by kernel_rfl
end Go.Proofs.YtambmifhidallaaGreatDoor
end

section
set_option linter.unusedVariables false
set_option maxRecDepth 100000
set_option maxHeartbeats 4000000
set_option linter.unusedSimpArgs false
namespace Go.Proofs.YtambmifhidallaaGreatDoor
open Go.AF
open Go.Proofs
theorem mxl : Tryz.prog.globalNamed "internal/bytealg.MaxLen" = some 0 := by kernel_rfl
theorem countM_ok (s sub : Bs) (hs : s.length ≤ 1000000) (h2 : 2 ≤ sub.length) : Pure Tryz.prog 11 [.str (sB s), .str (sB sub)] (.int .i64 ((Lib.countB (sB s) (sB sub) : Nat) : Int)) :=
  Pure.ofGrow (us := [.string (sB s), .string (sB sub)]) (fun w I vs h => by
    obtain ⟨u0, vs0, rfl, k0, u1, vs1, rfl, k1, k2⟩ := h
    have k0 : u0 = .string (sB s) := k0
    have k1 : u1 = .string (sB sub) := k1
    have k2 : vs1 = [] := k2
    rw [k0, k1, k2]) fun w I hg => by
    obtain ⟨m, hm⟩ := maxLen_of hg mxl
    exact (Any.strings_Count Tryz.lays138 (sB s) (sB sub) m w (by rw [sB_size]; omega) hm (by rw [sB_size]; exact h2)).mono fun e w' ⟨h1, h2⟩ => ⟨_, h1, fun _ _ => rfl, 0, #[], by rw [h2, Go.Sort.grow_empty]; rfl⟩
theorem count1_ok (s : Bs) : Pure Tryz.prog 11 [.str (sB s), .str (sB [10])] (.int .i64 ((s.count 10 : Nat) : Int)) :=
  Pure.ofGrow (us := [.string (sB s), .string (sB [10])]) (fun w I vs h => by
    obtain ⟨u0, vs0, rfl, k0, u1, vs1, rfl, k1, k2⟩ := h
    have k0 : u0 = .string (sB s) := k0
    have k1 : u1 = .string (sB [10]) := k1
    have k2 : vs1 = [] := k2
    rw [k0, k1, k2]) fun w I hg => (Any.strings_Count_one Tryz.lays138 (sB s) 10 w).mono fun e w' ⟨h1, h2⟩ => ⟨_, h1, fun _ _ => by show _ = _; rw [sB_list]; rfl, 0, #[], by rw [h2, Go.Sort.grow_empty]; rfl⟩
theorem contains_ok (s : Bs) (c : UInt8) (hs : s.length ≤ 1000000) : Pure Tryz.prog 15 [.str (sB s), .str (sB [c])] (.bool (decide (c ∈ s))) :=
  Pure.ofGrow (us := [.string (sB s), .string (sB [c])]) (fun w I vs h => by
    obtain ⟨u0, vs0, rfl, k0, u1, vs1, rfl, k1, k2⟩ := h
    have k0 : u0 = .string (sB s) := k0
    have k1 : u1 = .string (sB [c]) := k1
    have k2 : vs1 = [] := k2
    rw [k0, k1, k2]) fun w I hg => by
    obtain ⟨m, hm⟩ := maxLen_of hg mxl
    exact (Any.strings_Contains Tryz.lays144 (sB s) (sB [c]) m w (by rw [sB_size]; omega) hm).mono fun e w' ⟨h1, h2⟩ => ⟨_, h1, fun _ _ => by
      show Value.bool (decide (0 ≤ Lib.index (sB s).data.toList (sB [c]).data.toList)) = Value.bool _
      rw [sB_list, sB_list, Lib.index_one, idxB_mem], 0, #[], by rw [h2, Go.Sort.grow_empty]; rfl⟩
theorem lcut_ok (x t : Bs) (hx : nob 58 x) (hs : (x ++ [58, 32] ++ t).length ≤ 1000000) : Pure Tryz.prog 14 [.str (sB (x ++ [58, 32] ++ t)), .str (sB [58, 32])] (.tuple [.str (sB x), .str (sB t), .bool true]) :=
  Pure.ofGrow (us := [.string (sB (x ++ [58, 32] ++ t)), .string (sB [58, 32])]) (fun w I vs h => by
    obtain ⟨u0, vs0, rfl, k0, u1, vs1, rfl, k1, k2⟩ := h
    have k0 : u0 = .string (sB (x ++ [58, 32] ++ t)) := k0
    have k1 : u1 = .string (sB [58, 32]) := k1
    have k2 : vs1 = [] := k2
    rw [k0, k1, k2]) fun w I hg => by
    obtain ⟨m, hm⟩ := maxLen_of hg mxl
    refine (Any.strings_Cut Tryz.lays145 (sB (x ++ [58, 32] ++ t)) (sB [58, 32]) m w (by rw [sB_size]; omega) hm).mono fun e w' ⟨h1, n, h2⟩ => ⟨_, h1, fun _ _ => ?_, n, #[], by rw [h2, Go.Sort.grow_empty]⟩
    have hi : Lib.index (x ++ [58, 32] ++ t) [58, 32] = x.length := idx_app x hx
    have hc : Lib.cut (sB (x ++ [58, 32] ++ t)).data.toList (sB [58, 32]).data.toList = (x, t, true) := by
      rw [sB_list, sB_list]
      unfold Lib.cut
      rw [if_pos (by rw [hi]; omega), hi, show ((x.length : Nat) : Int).toNat = x.length from rfl, show x.length + [(58 : UInt8), 32].length = (x ++ [58, 32]).length by rw [List.length_append], List.drop_left, List.append_assoc, List.take_left]
    rw [hc]
    exact ⟨_, rfl, ⟨_, _, rfl, rfl, _, _, rfl, rfl, _, _, rfl, rfl, rfl⟩⟩
theorem relL_strs (w : World) (I : Nat → Prop) : ∀ ss : List ByteArray, RelL w I (ss.map PV.str) (ss.map Value.string)
  | [] => rfl
  | x :: xs => ⟨_, _, rfl, rfl, relL_strs w I xs⟩
theorem Pure.ofStrs {f : FuncId} {us : List Value} {args : List PV} {ss : List ByteArray} {t : TypeId} (hrel : ∀ w I vs, RelL w I args vs → vs = us) (h : ∀ (w : World) (I : Nat → Prop), GOk Tryz.prog w I → Calls Tryz.prog f us.toArray w fun e w' => e = .returned (.slice (some ⟨w.heap.size, 0, none⟩) ss.length ss.length) ∧ w' = w.alloc (.cells (ss.map Value.string).toArray t)) : Pure Tryz.prog f args (.is (ss.map PV.str) ss.length) := by
  intro w I ρ vs hi hvs
  have e := hrel w I vs (RelVL.pure.1 hvs)
  subst e
  refine CallsIn.mono ((callsIn_wide (n := 0)).2 (h w I hi.gl)) ?_
  rintro e w' ⟨rfl, rfl⟩
  refine ⟨_, .p _, fun b => I b ∨ b = w.heap.size, ρ, [], rfl, ⟨rfl, rfl⟩, Ext.allocImm hi _, hi.allocImm _, ?_⟩
  refine .inr ⟨w.heap.size, 0, ss.length, fun _ => .inr rfl, Nat.le_refl _, rfl, ?_⟩
  refine RelAt.of_list (ss.map PV.str) (ss.map Value.string) 0 ?_ ?_
  · exact relL_strs _ _ ss
  · intro j u hu
    have e : (w.alloc (.cells (ss.map Value.string).toArray t)).heap[w.heap.size]? = some (.cells (ss.map Value.string).toArray t) := Array.getElem?_push_size
    unfold World.cell?
    simp only [e, Nat.zero_add]
    simpa using hu
theorem genSplit_ok {c : UInt8} (ws : List Bs) (h0 : 0 < ws.length) (h : ∀ x ∈ ws, nob c x) (hs : (joinC c ws).length ≤ 1000000) : Pure Tryz.prog 44 [.str (sB (joinC c ws)), .str (sB [c]), .int .i64 0, .int .i64 (-1)] (.is ((ws.map sB).map PV.str) (ws.map sB).length) := by
  refine Pure.ofStrs (us := [.string (sB (joinC c ws)), .string (sB [c]), .int .i64 0, .int .i64 (-1)]) (t := 9) (fun w I vs h => by
    obtain ⟨u0, vs0, rfl, k0, u1, vs1, rfl, k1, u2, vs2, rfl, k2, u3, vs3, rfl, k3, k4⟩ := h
    have k0 : u0 = .string (sB (joinC c ws)) := k0
    have k1 : u1 = .string (sB [c]) := k1
    have k2 : u2 = .int .i64 0 := k2
    have k3 : u3 = .int .i64 (-1) := k3
    have k4 : vs3 = [] := k4
    rw [k0, k1, k2, k3, k4]) fun w I hg => ?_
  have hsz : (sB (joinC c ws)).size ≤ 1000000 := by rw [sB_size]; exact hs
  have hL := splitB_c ws h0 h
  have hcn := countB_c ws h0 h
  have hle := join_len (c := c) ws
  have k := Any.strings_genSplit_core Tryz.lays221 (by kernel_rfl) (sB (joinC c ws)) (sB [c]) 0 (-1) ws.length w (by omega) (by show 1 ≤ 1; decide) (Nat.zero_le _)
    (fun x cc hx => (Any.strings_Index_one Tryz.lays143 x c _).mono fun e w' ⟨h1, h2⟩ => ⟨by rw [h1]; show _ = Ending.returned (.int .i64 (Lib.index x.data.toList (sB [c]).data.toList)); rw [sB_list, Lib.index_one], h2⟩)
    ((Any.strings_Count_one Tryz.lays138 (sB (joinC c ws)) c w).mono fun e w' ⟨h1, h2⟩ => ⟨by rw [h1]; show _ = Ending.returned (.int .i64 ((Lib.count (sB (joinC c ws)).data.toList [c] : Nat) : Int)); rw [Lib.count_one]; rfl, h2⟩) (by decide) (by decide)
    (by rw [if_pos (by decide), hcn, sB_size]; push_cast; omega)
  refine k.mono fun e w' ⟨h1, h2⟩ => ?_
  rw [hL] at h1 h2
  refine ⟨?_, ?_⟩
  · rw [h1]; simp
  · rw [h2, show ws.length = (ws.map sB).length by simp, Lib.cellsOf_full]; rfl
theorem split_ok {c : UInt8} (ws : List Bs) (h0 : 0 < ws.length) (h : ∀ x ∈ ws, nob c x) (hs : (joinC c ws).length ≤ 1000000) : Pure Tryz.prog 13 [.str (sB (joinC c ws)), .str (sB [c])] (.is ((ws.map sB).map PV.str) (ws.map sB).length) := by
  refine Pure.start (N := 8) Tryz.func13 rfl rfl (Nat.le_of_ble_eq_true rfl) ?_
  refine AWp.seq ?_
  refine AWp.region ?_
  refine AList.c 4 rfl rfl rfl (OpJ.assign rfl rfl) ?_
  refine AList.nil ?_
  refine AWp.seq ?_
  refine AWp.region ?_
  refine AList.c 5 rfl rfl rfl (OpJ.move rfl rfl) ?_
  refine AList.c 6 rfl rfl rfl (OpJ.move rfl rfl) ?_
  refine AList.c 7 rfl rfl rfl (OpJ.callP (genSplit_ok ws h0 h hs) rfl rfl rfl rfl rf44) ?_
  refine AList.c 4 rfl rfl rfl (OpJ.assign rfl rfl) ?_
  refine AList.nil ?_
  refine AWp.ret ?_
  exact Fin.one rfl (rfl)
theorem split_V (ws : List Bs) : PV.is ((ws.map sB).map PV.str) (ws.map sB).length = lnsV ws := by
  unfold lnsV
  rw [List.length_map, List.map_map]
  congr 1
  induction ws with
  | nil => rfl
  | cons x xs ih => rw [List.map_cons, List.flatMap_cons, ih]; rfl
theorem splitV_ok {c : UInt8} (ws : List Bs) (h0 : 0 < ws.length) (h : ∀ x ∈ ws, nob c x) (hs : (joinC c ws).length ≤ 1000000) : Pure Tryz.prog 13 [.str (sB (joinC c ws)), .str (sB [c])] (lnsV ws) := by
  have k := split_ok ws h0 h hs
  rwa [split_V] at k
end Go.Proofs.YtambmifhidallaaGreatDoor
end

section
set_option linter.unusedVariables false
set_option maxRecDepth 100000
set_option maxHeartbeats 4000000
set_option linter.unusedSimpArgs false
namespace Go.Proofs.YtambmifhidallaaGreatDoor
open Go.AF
theorem splitL {p : List Pck} (h : ∀ x ∈ p, PckR x) (hs : (pcksT p).length ≤ 1000000) : Pure Tryz.prog 13 [.str (sB (pcksT p)), .str (sB [10])] (lnsV (p.map pckN ++ [[]])) := by
  have k := splitV_ok (c := 10) (p.map pckN ++ [[]]) (by simp) (lines_nob h) (by rw [lines_T]; exact hs)
  rwa [lines_T] at k
theorem cutL {p : List Pck} {i : Nat} (hi : i < p.length) (h : PckR (gt Pck.d p i)) (h0 : 0 < (wrds (gt Pck.d p i).colours).length) (hl : (joinC 32 (wrds (gt Pck.d p i).colours)).length ≤ 10000) : Pure Tryz.prog 14 [.str (sB (gt [] (p.map pckN ++ [[]]) i)), .str (sB [58, 32])] (.tuple [.str (sB (Lib.itoa (gt Pck.d p i).box)), .str (sB (joinC 32 (wrds (gt Pck.d p i).colours))), .bool true]) := by
  have hb := itoa_len h.1 (by have := h.2.1; omega)
  rw [lines_at hi, pckN_cut h0]
  exact lcut_ok _ _ (nob_itoa h.1 rfl) (by simp only [List.length_append]; show _ + 2 + _ ≤ _; omega)
theorem bookLines_ok (r : List Rpt) (p : List Pck) (hr : r.length ≤ bigN) (hrs : ∀ x ∈ r, x.strokes.length ≤ bigN) (hp : p.length ≤ bigN) (hps : ∀ x ∈ p, x.colours.length ≤ bigN) : Pure Tryz.prog 4 [rptsV r, pcksV p] (.bool true) := by
  have hr2 := hr
  have hp2 := hp
  unfold bigN at hr2 hp2
  refine Pure.start (N := 180) Tryz.func4 rfl rfl (Nat.le_of_ble_eq_true rfl) ?_
  refine AWp.seq ?_
  refine AWp.region ?_
  refine AList.c 4 rfl rfl rfl (OpJ.assign rfl rfl) ?_
  refine AList.nil ?_
  refine AWp.seq ?_
  refine AWp.seq ?_
  refine AWp.region ?_
  refine AList.c 26 rfl rfl rfl (OpJ.move rfl rfl) ?_
  refine AList.c 27 rfl rfl rfl (OpJ.move rfl rfl) ?_
  refine AList.c 28 rfl rfl rfl (OpJ.callP (manyRP_ok r p hr hp) rfl rfl rfl rfl rf9) ?_
  refine AList.nil ?_
  refine AWp.cond _ rfl (fun hc0 => ?_) (fun hc0 => ?_)
  · skip
    refine AWp.seq ?_
    refine AWp.region ?_
    refine AList.c 29 rfl rfl rfl (OpJ.callP (alive_ok) rfl rfl rfl rfl rf8) ?_
    refine AList.c 4 rfl rfl rfl (OpJ.assign rfl rfl) ?_
    refine AList.nil ?_
    refine AWp.ret ?_
    first | exact Fin.oneE rfl rfl rfl | (refine Fin.oneE rfl rfl ?_; rw [he]; rfl)
  · skip
    refine AWp.skip ?_
    refine AWp.seq ?_
    refine AWp.region ?_
    refine AList.c 31 rfl rfl rfl (OpJ.move rfl rfl) ?_
    refine AList.c 32 rfl rfl rfl (OpJ.callP (writeReports_ok r hr hrs) rfl rfl rfl rfl rf10) ?_
    refine AList.c 30 rfl rfl rfl (OpJ.move rfl rfl) ?_
    refine AList.c 33 rfl rfl rfl (OpJ.extract rfl rfl rfl) ?_
    refine AList.c 34 rfl rfl rfl (OpJ.extract rfl rfl rfl) ?_
    refine AList.c 5 rfl rfl rfl (OpJ.assign rfl rfl) ?_
    refine AList.c 6 rfl rfl rfl (OpJ.assign rfl rfl) ?_
    refine AList.nil ?_
    refine AWp.join (fun (g0 : Unit) => [(0, .p (rptsV r)), (1, .p (pcksV p))]) (fun (g0 : Unit) => []) (fun (g0 : Unit) => True) ?_ (fun g hg => ?_)
    · skip
      refine AWp.seq ?_
      refine AWp.region ?_
      refine AList.c 35 rfl rfl rfl (OpJ.move rfl rfl) ?_
      refine AList.c 36 rfl rfl rfl (OpJ.eql rfl rfl rfl) ?_
      refine AList.nil ?_
      refine AWp.cond _ rfl (fun hc1 => ?_) (fun hc1 => ?_)
      · skip
        obtain ⟨h20, hv, eT, hB, _⟩ := wrR_ok (l := r) (by simpa using hc1)
        have hall := rise_all hv (by decide)
        have hRR : ∀ x ∈ r, RptR x := fun x hx => rptB_R (hall x hx).2.2.2 (hall x hx).2.1 (hall x hx).2.2.1
        have h6 : ∀ x ∈ r, x.strokes.length ≤ 6 := fun x hx => (rptB_some (hall x hx).2.2.2).1
        rw [eT]
        refine AWp.seq ?_
        refine AWp.region ?_
        refine AList.c 7 rfl rfl rfl (OpJ.assign rfl rfl) ?_
        refine AList.nil ?_
        refine AWp.seq ?_
        refine AWp.seq ?_
        refine AWp.region ?_
        refine AList.c 37 rfl rfl rfl (OpJ.move rfl rfl) ?_
        refine AList.c 38 rfl rfl rfl (OpJ.lenSlice rfl rfl sl32 rfl) ?_
        refine AList.c 39 rfl rfl rfl (OpJ.move rfl rfl) ?_
        refine AList.nil ?_
        refine AWp.block ?_
        refine AWp.loopHL [0, 1, 4, 5, 10, 11, 12, 13, 14, 16, 17, 18, 19, 20, 21, 22, 23, 25, 37, 38, 50, 51, 52, 53, 54, 55, 56, 57, 58, 59, 60, 61, 62, 63, 64, 65, 66, 67, 68, 69, 70, 71, 72, 73, 74, 75, 76, 77, 78, 79, 80, 81, 82, 83, 84, 85, 86, 87, 88, 89, 90, 91, 92, 93, 94, 95, 96, 97, 98, 99, 100, 101, 102, 103, 104, 105, 106, 107, 108, 109, 110, 111, 112, 113, 114, 115, 116, 117, 118, 119, 120, 121, 122, 123, 124, 125, 126, 127, 128, 129, 130, 131, 132, 133, 134, 135, 136, 137, 138, 139, 140, 141, 142, 143, 144, 145, 146, 147, 148, 149, 150, 151, 152, 153, 154, 155, 156, 157, 158, 159, 160, 161, 162, 163, 164, 165, 166, 167, 168, 169, 170, 171, 172, 173, 174, 175, 176, 177, 178, 179] (fun g => [(39, .p (.int .i64 ((g : Nat) : Int))), (7, .p (.int .i64 ((lnR r g : Nat) : Int)))]) (fun g => []) (fun g => g ≤ r.length) (fun g => r.length - g) 0 (Nat.zero_le _) (To.sub (Sub.chk (Sub.cons rfl (Sub.cons rfl (Sub.nil))))) (fun i hg => ?_)
        refine AWp.seq ?_
        refine AWp.region ?_
        refine AList.c 40 rfl rfl rfl (OpJ.lss rfl rfl rfl) ?_
        refine AList.nil ?_
        refine AWp.seq ?_
        refine AWp.cond _ rfl (fun hc2 => ?_) (fun hc2 => ?_)
        · skip
          have hk0 : i < r.length := by have h := of_decide_eq_true hc2; omega
          have hn6 := h6 _ (gt_mem Rpt.d hk0)
          have hln := lnR_le h6 i (by omega)
          refine AWp.skip ?_
          refine AWp.seq ?_
          refine AWp.block ?_
          refine AWp.seq ?_
          refine AWp.region ?_
          refine AList.c 41 rfl rfl rfl (OpJ.indexG (g := gt Rpt.d r) (gt_get _) rfl rfl rfl sl32 el32 rfl (fun _ => rfl) (by decide) hk0) ?_
          refine AList.c 42 rfl rfl rfl (OpJ.load (v := .p (.agg (gt Rpt.d r i).cells)) rfl rfl ty40 rfl) ?_
          refine AList.c 9 rfl rfl rfl (OpJ.allocOwn rfl zr40 rfl) ?_
          refine AList.c0 rfl rfl (OpJ.store (H' := [.cells ((gt Rpt.d r i).cells.map .p) 40]) rfl rfl rfl rfl rfl ty40 rfl rfl) ?_
          refine AList.nil ?_
          refine AWp.region ?_
          refine AList.c 43 rfl rfl rfl (OpJ.move rfl rfl) ?_
          refine AList.c 44 rfl rfl rfl (OpJ.fieldAddr rfl rfl fd40_1 rfl) ?_
          refine AList.c 45 rfl rfl rfl (OpJ.load (v := .p (stksV (gt Rpt.d r i).strokes)) rfl rfl ty36 rfl) ?_
          refine AList.c 46 rfl rfl rfl (OpJ.lenSlice rfl rfl sl36 rfl) ?_
          refine AList.c 47 rfl rfl rfl (OpJ.add (m := ((3 + (gt Rpt.d r i).strokes.length : Nat) : Int)) rfl rfl rfl ((i64ok ?_).trans ?_)) ?_
          · omega
          · omega
          refine AList.c 48 rfl rfl rfl (OpJ.add (m := ((lnR r (i + 1) : Nat) : Int)) rfl rfl rfl ((i64ok ?_).trans ?_)) ?_
          · omega
          · show _ = ((lnR r i + (3 + (gt Rpt.d r i).strokes.length) : Nat) : Int); omega
          refine AList.c 7 rfl rfl rfl (OpJ.assign rfl rfl) ?_
          refine AList.nil ?_
          refine AWp.region ?_
          refine AList.c 49 rfl rfl rfl (OpJ.add rfl rfl rfl (i64ok ?_)) ?_
          · omega
          refine AList.c 39 rfl rfl rfl (OpJ.move rfl rfl) ?_
          refine AList.nil ?_
          refine ⟨i + 1, ?_, ?_, ?_⟩
          · exact hk0
          · omega
          exact To.done [] rfl (by repeat (first | exact Sub.nil | refine Sub.cons rfl ?_)) rfl
        · skip
          have hi2 : i = r.length := by have h := of_decide_eq_false hc2; omega
          subst hi2
          have hcnt := lnR_all hRR
          have hbat := countB_bat hRR
          refine AWp.exit ?_
          refine AWp.seq ?_
          refine AWp.region ?_
          refine AList.c 50 rfl rfl rfl (OpJ.move rfl rfl) ?_
          refine AList.c 51 rfl rfl rfl (OpJ.callP (count1_ok (rptsT r)) rfl rfl rfl rfl rf11) ?_
          refine AList.c 52 rfl rfl rfl (OpJ.move rfl rfl) ?_
          refine AList.c 53 rfl rfl rfl (OpJ.neq rfl rfl rfl) ?_
          refine AList.c 54 rfl rfl rfl (OpJ.move rfl rfl) ?_
          refine AList.g 55 54 rfl rfl rfl rfl rfl rfl rfl [(5, _)] (fun h => And.intro (.inl rfl) (trivial)) (fun h => (OpJ.move rfl rfl)) ?_
          refine AList.g 56 54 rfl rfl rfl rfl rfl rfl rfl [(55, _)] (fun h => And.intro (.inr ⟨_, rfl, h⟩) (trivial)) (fun h => (OpJ.callP (countM_ok (rptsT r) batT (by omega) (by decide)) rfl rfl rfl rfl rf11)) ?_
          refine AList.g 57 54 rfl rfl rfl rfl rfl rfl rfl [(0, _)] (fun h => And.intro (.inl rfl) (trivial)) (fun h => (OpJ.move rfl rfl)) ?_
          refine AList.g 58 54 rfl rfl rfl rfl rfl rfl rfl [(57, _)] (fun h => And.intro (.inr ⟨_, rfl, h⟩) (trivial)) (fun h => (OpJ.lenSlice rfl rfl sl32 rfl)) ?_
          refine AList.g 59 54 rfl rfl rfl rfl rfl rfl rfl [(56, _), (58, _)] (fun h => And.intro (.inr ⟨_, rfl, h⟩) (And.intro (.inr ⟨_, rfl, h⟩) (trivial))) (fun h => (OpJ.neq rfl rfl rfl)) ?_
          refine AList.c 60 rfl rfl rfl (OpJ.or_ rfl rfl rfl ?_) ?_
          · first | (intro h; rw [h]; rfl) | (intro h; simp_all)
          refine AList.nil ?_
          refine AWp.cond _ rfl (fun hc3 => ?_) (fun hc3 => ?_)
          · skip
            exfalso
            rw [hcnt, hbat] at hc3
            simp at hc3
          · skip
            refine AWp.skip ?_
            exact ⟨(), trivial, To.done [] rfl (by repeat (first | exact Sub.nil | refine Sub.cons rfl ?_)) rfl⟩
      · skip
        refine AWp.skip ?_
        exact ⟨(), trivial, To.done [] rfl (by repeat (first | exact Sub.nil | refine Sub.cons rfl ?_)) rfl⟩
    · skip
      refine AWp.seq ?_
      refine AWp.region ?_
      refine AList.c 62 rfl rfl rfl (OpJ.move rfl rfl) ?_
      refine AList.c 63 rfl rfl rfl (OpJ.callP (writePacks_ok p hp hps) rfl rfl rfl rfl rf12) ?_
      refine AList.c 61 rfl rfl rfl (OpJ.move rfl rfl) ?_
      refine AList.c 64 rfl rfl rfl (OpJ.extract rfl rfl rfl) ?_
      refine AList.c 65 rfl rfl rfl (OpJ.extract rfl rfl rfl) ?_
      refine AList.c 10 rfl rfl rfl (OpJ.assign rfl rfl) ?_
      refine AList.c 11 rfl rfl rfl (OpJ.assign rfl rfl) ?_
      refine AList.nil ?_
      refine AWp.seq ?_
      refine AWp.seq ?_
      refine AWp.region ?_
      refine AList.c 66 rfl rfl rfl (OpJ.move rfl rfl) ?_
      refine AList.c 67 rfl rfl rfl (OpJ.neq rfl rfl rfl) ?_
      refine AList.nil ?_
      refine AWp.cond _ rfl (fun hc4 => ?_) (fun hc4 => ?_)
      · skip
        have he : (wrP p).1 = [] := wrP_e (by simpa using hc4)
        refine AWp.seq ?_
        refine AWp.region ?_
        refine AList.c 68 rfl rfl rfl (OpJ.move rfl rfl) ?_
        refine AList.c 69 rfl rfl rfl (OpJ.strEq (wrP p).1 [] rfl rfl rfl) ?_
        refine AList.c 70 rfl rfl rfl (OpJ.move rfl rfl) ?_
        refine AList.g 71 70 rfl rfl rfl rfl rfl rfl rfl [] (fun h => trivial) (fun h => (OpJ.callP (alive_ok) rfl rfl rfl rfl rf8)) ?_
        refine AList.c 72 rfl rfl rfl (OpJ.and_ rfl rfl rfl ?_) ?_
        · first | (intro h; rw [h]; rfl) | (intro h; simp_all)
        refine AList.c 4 rfl rfl rfl (OpJ.assign rfl rfl) ?_
        refine AList.nil ?_
        refine AWp.ret ?_
        first | exact Fin.oneE rfl rfl rfl | (refine Fin.oneE rfl rfl ?_; rw [he]; rfl)
      · skip
        obtain ⟨h30, hv, eT, hB, _⟩ := wrP_ok (l := p) (by simpa using hc4)
        have hPR := pcks_R hv
        rw [eT]
        refine AWp.skip ?_
        refine AWp.seq ?_
        refine AWp.region ?_
        refine AList.c 73 rfl rfl rfl (OpJ.move rfl rfl) ?_
        refine AList.c 74 rfl rfl rfl (OpJ.callP (splitL hPR (by omega)) rfl rfl rfl rfl rf13) ?_
        refine AList.c 12 rfl rfl rfl (OpJ.assign rfl rfl) ?_
        refine AList.nil ?_
        refine AWp.seq ?_
        refine AWp.seq ?_
        refine AWp.region ?_
        refine AList.c 75 rfl rfl rfl (OpJ.move rfl rfl) ?_
        refine AList.c 76 rfl rfl rfl (OpJ.lenSlice rfl rfl sl22 rfl) ?_
        refine AList.c 77 rfl rfl rfl (OpJ.move rfl rfl) ?_
        refine AList.c 78 rfl rfl rfl (OpJ.lenSlice rfl rfl sl23 rfl) ?_
        refine AList.c 79 rfl rfl rfl (OpJ.add rfl rfl rfl (i64ok ?_)) ?_
        · omega
        refine AList.c 80 rfl rfl rfl (OpJ.neq rfl rfl rfl) ?_
        refine AList.c 81 rfl rfl rfl (OpJ.move rfl rfl) ?_
        refine AList.g 82 81 rfl rfl rfl rfl rfl rfl rfl [(12, _)] (fun h => And.intro (.inl rfl) (trivial)) (fun h => (OpJ.move rfl rfl)) ?_
        refine AList.g 83 81 rfl rfl rfl rfl rfl rfl rfl [(1, _)] (fun h => And.intro (.inl rfl) (trivial)) (fun h => (OpJ.move rfl rfl)) ?_
        refine AList.g 84 81 rfl rfl rfl rfl rfl rfl rfl [(83, _)] (fun h => And.intro (.inr ⟨_, rfl, h⟩) (trivial)) (fun h => (OpJ.lenSlice rfl rfl sl23 rfl)) ?_
        refine AList.g 85 81 rfl rfl rfl rfl rfl rfl rfl [(82, _), (84, _)] (fun h => And.intro (.inr ⟨_, rfl, h⟩) (And.intro (.inr ⟨_, rfl, h⟩) (trivial))) (fun h => (OpJ.indexG (g := gt [] (p.map pckN ++ [[]])) (gt_get _) rfl rfl rfl sl22 el22 rfl (fun _ => rfl) (by decide) (by simp))) ?_
        refine AList.g 86 81 rfl rfl rfl rfl rfl rfl rfl [(85, _)] (fun h => And.intro (.inr ⟨_, rfl, h⟩) (trivial)) (fun h => (OpJ.load (v := .p (.str (sB (gt [] (p.map pckN ++ [[]]) p.length)))) rfl rfl ty9 rfl)) ?_
        refine AList.g 87 81 rfl rfl rfl rfl rfl rfl rfl [(86, _)] (fun h => And.intro (.inr ⟨_, rfl, h⟩) (trivial)) (fun h => (OpJ.strNe (gt [] (p.map pckN ++ [[]]) p.length) [] rfl rfl rfl)) ?_
        refine AList.c 88 rfl rfl rfl (OpJ.or_ rfl rfl rfl ?_) ?_
        · first | (intro h; rw [h]; rfl) | (intro h; simp_all)
        refine AList.nil ?_
        refine AWp.cond _ rfl (fun hc5 => ?_) (fun hc5 => ?_)
        · skip
          exfalso
          simp [gt] at hc5
        · skip
          refine AWp.skip ?_
          refine AWp.seq ?_
          refine AWp.seq ?_
          refine AWp.region ?_
          refine AList.c 89 rfl rfl rfl (OpJ.move rfl rfl) ?_
          refine AList.c 90 rfl rfl rfl (OpJ.lenSlice rfl rfl sl23 rfl) ?_
          refine AList.c 91 rfl rfl rfl (OpJ.move rfl rfl) ?_
          refine AList.nil ?_
          refine AWp.block ?_
          refine AWp.loopHL [12, 89, 90, 179] (fun g => [(91, .p (.int .i64 ((g : Nat) : Int)))]) (fun g => []) (fun g => g ≤ p.length) (fun g => p.length - g) 0 (Nat.zero_le _) (To.sub (Sub.chk (Sub.cons rfl (Sub.nil)))) (fun i hg => ?_)
          refine AWp.seq ?_
          refine AWp.region ?_
          refine AList.c 92 rfl rfl rfl (OpJ.lss rfl rfl rfl) ?_
          refine AList.nil ?_
          refine AWp.seq ?_
          refine AWp.cond _ rfl (fun hc6 => ?_) (fun hc6 => ?_)
          · skip
            have hk0 : i < p.length := by have h := of_decide_eq_true hc6; omega
            have hPi := hPR _ (gt_mem Pck.d hk0)
            obtain ⟨hcs, hc1, hc48⟩ := pckB_some hPi.2.2
            have hw0 := wrds_pos (show 0 < (gt Pck.d p i).colours.length by omega) hcs
            have hwk := wrd_ok hcs (show (gt Pck.d p i).colours.length ≤ 1000 by omega)
            obtain ⟨q1, q2, q3, q4⟩ := itm_law hcs
            have hkl := kinN_le (gt Pck.d p i).colours (gt Pck.d p i).colours.length
            have hwl0 := join_le (c := 32) (B := 40) (wrds (gt Pck.d p i).colours) fun w hw => (hwk w hw).2
            have hwl : (joinC 32 (wrds (gt Pck.d p i).colours)).length ≤ 10000 := by omega
            have hwn := wrds_len (gt Pck.d p i).colours
            refine AWp.skip ?_
            refine AWp.seq ?_
            refine AWp.block ?_
            refine AWp.seq ?_
            refine AWp.region ?_
            refine AList.c 93 rfl rfl rfl (OpJ.move rfl rfl) ?_
            refine AList.c 94 rfl rfl rfl (OpJ.indexG (g := gt Pck.d p) (gt_get _) rfl rfl rfl sl23 el23 rfl (fun _ => rfl) (by decide) hk0) ?_
            refine AList.c 95 rfl rfl rfl (OpJ.load (v := .p (.agg (gt Pck.d p i).cells)) rfl rfl ty46 rfl) ?_
            refine AList.c 14 rfl rfl rfl (OpJ.allocOwn rfl zr46 rfl) ?_
            refine AList.c 13 rfl rfl rfl (OpJ.assign rfl rfl) ?_
            refine AList.c0 rfl rfl (OpJ.store (H' := [.cells ((gt Pck.d p i).cells.map .p) 46]) rfl rfl rfl rfl rfl ty46 rfl rfl) ?_
            refine AList.nil ?_
            refine AWp.seq ?_
            refine AWp.region ?_
            refine AList.c 97 rfl rfl rfl (OpJ.move rfl rfl) ?_
            refine AList.c 98 rfl rfl rfl (OpJ.move rfl rfl) ?_
            refine AList.c 99 rfl rfl rfl (OpJ.indexG (g := gt [] (p.map pckN ++ [[]])) (gt_get _) rfl rfl rfl sl22 el22 rfl (fun _ => rfl) (by decide) (by simp; omega)) ?_
            refine AList.c 100 rfl rfl rfl (OpJ.load (v := .p (.str (sB (gt [] (p.map pckN ++ [[]]) i)))) rfl rfl ty9 rfl) ?_
            refine AList.c 101 rfl rfl rfl (OpJ.callP (cutL hk0 hPi hw0 hwl) rfl rfl rfl rfl rf14) ?_
            refine AList.c 96 rfl rfl rfl (OpJ.move rfl rfl) ?_
            refine AList.c 102 rfl rfl rfl (OpJ.extract rfl rfl rfl) ?_
            refine AList.c 103 rfl rfl rfl (OpJ.extract rfl rfl rfl) ?_
            refine AList.c 104 rfl rfl rfl (OpJ.extract rfl rfl rfl) ?_
            refine AList.c 15 rfl rfl rfl (OpJ.assign rfl rfl) ?_
            refine AList.c 16 rfl rfl rfl (OpJ.assign rfl rfl) ?_
            refine AList.c 17 rfl rfl rfl (OpJ.assign rfl rfl) ?_
            refine AList.nil ?_
            refine AWp.seq ?_
            refine AWp.seq ?_
            refine AWp.region ?_
            refine AList.c 105 rfl rfl rfl (OpJ.move rfl rfl) ?_
            refine AList.c 106 rfl rfl rfl (OpJ.not_ rfl rfl) ?_
            refine AList.nil ?_
            refine AWp.cond _ rfl (fun hc7 => ?_) (fun hc7 => ?_)
            · skip
              exfalso
              simp at hc7
            · skip
              refine AWp.skip ?_
              refine AWp.seq ?_
              refine AWp.region ?_
              refine AList.c 107 rfl rfl rfl (OpJ.move rfl rfl) ?_
              refine AList.c 108 rfl rfl rfl (OpJ.callP (splitV_ok (wrds (gt Pck.d p i).colours) hw0 (fun w hw => (hwk w hw).1) (by omega)) rfl rfl rfl rfl rf13) ?_
              refine AList.c 18 rfl rfl rfl (OpJ.assign rfl rfl) ?_
              refine AList.nil ?_
              refine AWp.seq ?_
              refine AWp.region ?_
              refine AList.c 19 rfl rfl rfl (OpJ.assign rfl rfl) ?_
              refine AList.c 20 rfl rfl rfl (OpJ.assign rfl rfl) ?_
              refine AList.c 21 rfl rfl rfl (OpJ.assign rfl rfl) ?_
              refine AList.nil ?_
              refine AWp.seq ?_
              refine AWp.seq ?_
              refine AWp.region ?_
              refine AList.c 109 rfl rfl rfl (OpJ.fieldAddr rfl rfl fd46_1 rfl) ?_
              refine AList.c 110 rfl rfl rfl (OpJ.load (v := .p (intsV (gt Pck.d p i).colours)) rfl rfl ty44 rfl) ?_
              refine AList.c 111 rfl rfl rfl (OpJ.lenSlice rfl rfl sl44 rfl) ?_
              refine AList.c 112 rfl rfl rfl (OpJ.move rfl rfl) ?_
              refine AList.nil ?_
              refine AWp.block ?_
              refine AWp.loopHL [4, 12, 13, 14, 16, 17, 18, 20, 21, 25, 89, 90, 91, 92, 93, 94, 95, 96, 97, 98, 99, 100, 101, 102, 103, 104, 105, 106, 107, 108, 109, 110, 111, 132, 133, 134, 135, 136, 137, 138, 139, 140, 141, 142, 143, 144, 145, 146, 147, 148, 149, 150, 151, 152, 153, 154, 155, 156, 157, 158, 159, 160, 161, 162, 163, 164, 165, 166, 167, 168, 169, 170, 171, 172, 173, 174, 175, 176, 177, 178, 179] (fun g => [(112, .p (.int .i64 ((g : Nat) : Int))), (19, .p (.int .i64 ((kinN (gt Pck.d p i).colours g : Nat) : Int)))]) (fun g => [.cells ((gt Pck.d p i).cells.map .p) 46]) (fun g => g ≤ (gt Pck.d p i).colours.length) (fun g => (gt Pck.d p i).colours.length - g) 0 (Nat.zero_le _) (To.sub (Sub.chk (Sub.cons rfl (Sub.cons rfl (Sub.nil))))) (fun k hg => ?_)
              refine AWp.seq ?_
              refine AWp.region ?_
              refine AList.c 113 rfl rfl rfl (OpJ.lss rfl rfl rfl) ?_
              refine AList.nil ?_
              refine AWp.seq ?_
              refine AWp.cond _ rfl (fun hc8 => ?_) (fun hc8 => ?_)
              · skip
                have hk1 : k < (gt Pck.d p i).colours.length := by have h : (k : Int) < ((gt Pck.d p i).colours.length : Int) := of_decide_eq_true hc8; omega
                have hkk := kinN_le (gt Pck.d p i).colours k
                refine AWp.skip ?_
                refine AWp.seq ?_
                refine AWp.block ?_
                refine AWp.seq ?_
                refine AWp.region ?_
                refine AList.c 114 rfl rfl rfl (OpJ.move rfl rfl) ?_
                refine AList.c 115 rfl rfl rfl (OpJ.indexG (g := gt 0 (gt Pck.d p i).colours) (gt_get _) rfl rfl rfl sl44 el44 rfl (fun _ => rfl) (by decide) hk1) ?_
                refine AList.c 116 rfl rfl rfl (OpJ.load (v := .p (.int .i64 (gt 0 (gt Pck.d p i).colours k))) rfl rfl ty3 rfl) ?_
                refine AList.c 22 rfl rfl rfl (OpJ.assign rfl rfl) ?_
                refine AList.c 23 rfl rfl rfl (OpJ.assign rfl rfl) ?_
                refine AList.nil ?_
                refine AWp.seq ?_
                refine AWp.region ?_
                refine AList.c 117 rfl rfl rfl (OpJ.move rfl rfl) ?_
                refine AList.c 118 rfl rfl rfl (OpJ.eql rfl rfl rfl) ?_
                refine AList.c 119 rfl rfl rfl (OpJ.move rfl rfl) ?_
                refine AList.g 120 119 rfl rfl rfl rfl rfl rfl rfl [(14, _)] (fun h => And.intro (.inl rfl) (trivial)) (fun h => (OpJ.fieldAddr rfl rfl fd46_1 rfl)) ?_
                refine AList.g 121 119 rfl rfl rfl rfl rfl rfl rfl [(120, _)] (fun h => And.intro (.inr ⟨_, rfl, h⟩) (trivial)) (fun h => (OpJ.load (v := .p (intsV (gt Pck.d p i).colours)) rfl rfl ty44 rfl)) ?_
                refine AList.g 122 119 rfl rfl rfl rfl rfl rfl rfl [(22, _)] (fun h => And.intro (.inl rfl) (trivial)) (fun h => (OpJ.move rfl rfl)) ?_
                refine AList.g 123 119 rfl rfl rfl rfl rfl rfl rfl [(122, _)] (fun h => And.intro (.inr ⟨_, rfl, h⟩) (trivial)) (fun h => (OpJ.sub_ (m := ((k - 1 : Nat) : Int)) rfl rfl rfl ((i64ok (by simp only [Bool.and_eq_true, beq_iff_eq, decide_eq_true_eq, decide_eq_false_iff_not] at h; omega)).trans (by simp only [Bool.and_eq_true, beq_iff_eq, decide_eq_true_eq, decide_eq_false_iff_not] at h; omega)))) ?_
                refine AList.g 124 119 rfl rfl rfl rfl rfl rfl rfl [(121, _), (123, _)] (fun h => And.intro (.inr ⟨_, rfl, h⟩) (And.intro (.inr ⟨_, rfl, h⟩) (trivial))) (fun h => (OpJ.indexG (g := gt 0 (gt Pck.d p i).colours) (k := (k - 1)) (gt_get _) rfl rfl rfl sl44 el44 rfl (fun _ => rfl) (by decide) (by omega))) ?_
                refine AList.g 125 119 rfl rfl rfl rfl rfl rfl rfl [(124, _)] (fun h => And.intro (.inr ⟨_, rfl, h⟩) (trivial)) (fun h => (OpJ.load (v := .p (.int .i64 (gt 0 (gt Pck.d p i).colours (k - 1)))) rfl rfl ty3 rfl)) ?_
                refine AList.g 126 119 rfl rfl rfl rfl rfl rfl rfl [(23, _)] (fun h => And.intro (.inl rfl) (trivial)) (fun h => (OpJ.move rfl rfl)) ?_
                refine AList.g 127 119 rfl rfl rfl rfl rfl rfl rfl [(125, _), (126, _)] (fun h => And.intro (.inr ⟨_, rfl, h⟩) (And.intro (.inr ⟨_, rfl, h⟩) (trivial))) (fun h => (OpJ.neq rfl rfl rfl)) ?_
                refine AList.c 128 rfl rfl rfl (OpJ.or_ rfl rfl rfl ?_) ?_
                · first | (intro h; rw [h]; rfl) | (intro h; simp_all)
                refine AList.nil ?_
                refine AWp.cond _ rfl (fun hc9 => ?_) (fun hc9 => ?_)
                · skip
                  refine AWp.region ?_
                  refine AList.c 129 rfl rfl rfl (OpJ.move rfl rfl) ?_
                  refine AList.c 130 rfl rfl rfl (OpJ.add (m := ((kinN (gt Pck.d p i).colours k + 1 : Nat) : Int)) rfl rfl rfl ((i64ok ?_).trans ?_)) ?_
                  · omega
                  · rfl
                  refine AList.c 19 rfl rfl rfl (OpJ.assign rfl rfl) ?_
                  refine AList.nil ?_
                  refine AWp.region ?_
                  refine AList.c 131 rfl rfl rfl (OpJ.add rfl rfl rfl (i64ok ?_)) ?_
                  · omega
                  refine AList.c 112 rfl rfl rfl (OpJ.move rfl rfl) ?_
                  refine AList.nil ?_
                  refine ⟨k + 1, ?_, ?_, ?_⟩
                  · exact hk1
                  · omega
                  rw [kin_step _ _ _ hc9]
                  exact To.done [0] rfl (by repeat (first | exact Sub.nil | refine Sub.cons rfl ?_)) rfl
                · skip
                  refine AWp.skip ?_
                  refine AWp.region ?_
                  refine AList.c 131 rfl rfl rfl (OpJ.add rfl rfl rfl (i64ok ?_)) ?_
                  · omega
                  refine AList.c 112 rfl rfl rfl (OpJ.move rfl rfl) ?_
                  refine AList.nil ?_
                  refine ⟨k + 1, ?_, ?_, ?_⟩
                  · exact hk1
                  · omega
                  rw [kin_step _ _ _ hc9]
                  exact To.done [0] rfl (by repeat (first | exact Sub.nil | refine Sub.cons rfl ?_)) rfl
              · skip
                have hk2 : k = (gt Pck.d p i).colours.length := by have h : ¬ ((k : Int) < ((gt Pck.d p i).colours.length : Int)) := of_decide_eq_false hc8; omega
                subst hk2
                refine AWp.exit ?_
                refine AWp.seq ?_
                refine AWp.seq ?_
                refine AWp.region ?_
                refine AList.c 132 rfl rfl rfl (OpJ.move rfl rfl) ?_
                refine AList.c 133 rfl rfl rfl (OpJ.lenSlice rfl rfl sl22 rfl) ?_
                refine AList.c 134 rfl rfl rfl (OpJ.move rfl rfl) ?_
                refine AList.nil ?_
                refine AWp.block ?_
                refine AWp.loopHL [4, 12, 13, 14, 16, 17, 18, 19, 22, 23, 89, 90, 91, 92, 93, 94, 95, 96, 97, 98, 99, 100, 101, 102, 103, 104, 105, 106, 107, 108, 109, 110, 111, 112, 113, 114, 115, 116, 117, 118, 119, 120, 121, 122, 123, 124, 125, 126, 127, 128, 129, 130, 131, 132, 133, 148, 149, 150, 151, 152, 153, 154, 155, 156, 157, 158, 159, 160, 161, 162, 163, 164, 165, 166, 167, 168, 169, 170, 171, 172, 173, 174, 175, 176, 177, 178, 179] (fun g => [(134, .p (.int .i64 ((g : Nat) : Int))), (20, .p (.int .i64 ((runN (itm (grp (gt Pck.d p i).colours)) g : Nat) : Int))), (21, .p (.int .i64 ((alN (itm (grp (gt Pck.d p i).colours)) g : Nat) : Int)))]) (fun g => [.cells ((gt Pck.d p i).cells.map .p) 46]) (fun g => g ≤ (wrds (gt Pck.d p i).colours).length) (fun g => (wrds (gt Pck.d p i).colours).length - g) 0 (Nat.zero_le _) (To.sub (Sub.chk (Sub.cons rfl (Sub.cons rfl (Sub.cons rfl (Sub.nil)))))) (fun j hg => ?_)
                refine AWp.seq ?_
                refine AWp.region ?_
                refine AList.c 135 rfl rfl rfl (OpJ.lss rfl rfl rfl) ?_
                refine AList.nil ?_
                refine AWp.seq ?_
                refine AWp.cond _ rfl (fun hc10 => ?_) (fun hc10 => ?_)
                · skip
                  have hj1 : j < (wrds (gt Pck.d p i).colours).length := by have h : (j : Int) < ((wrds (gt Pck.d p i).colours).length : Int) := of_decide_eq_true hc10; omega
                  have hwj := (hwk _ (gt_mem [] hj1)).2
                  have hjr := cntP_le isRun (itm (grp (gt Pck.d p i).colours)) j
                  have hja := cntP_le isAl (itm (grp (gt Pck.d p i).colours)) j
                  obtain ⟨z1, z2⟩ := itm_zero hcs (show (gt Pck.d p i).colours.length ≤ 1000 by omega) (show j < (itm (grp (gt Pck.d p i).colours)).length by omega)
                  refine AWp.skip ?_
                  refine AWp.seq ?_
                  refine AWp.block ?_
                  refine AWp.seq ?_
                  refine AWp.region ?_
                  refine AList.c 136 rfl rfl rfl (OpJ.indexG (g := gt [] (wrds (gt Pck.d p i).colours)) (gt_get _) rfl rfl rfl sl22 el22 rfl (fun _ => rfl) (by decide) hj1) ?_
                  refine AList.c 137 rfl rfl rfl (OpJ.load (v := .p (.str (sB (gt [] (wrds (gt Pck.d p i).colours) j)))) rfl rfl ty9 rfl) ?_
                  refine AList.c 25 rfl rfl rfl (OpJ.assign rfl rfl) ?_
                  refine AList.nil ?_
                  refine AWp.seq ?_
                  refine AWp.region ?_
                  refine AList.c 138 rfl rfl rfl (OpJ.move rfl rfl) ?_
                  refine AList.c 139 rfl rfl rfl (OpJ.callP (contains_ok (gt [] (wrds (gt Pck.d p i).colours) j) 45 (by omega)) rfl rfl rfl rfl rf15) ?_
                  refine AList.nil ?_
                  refine AWp.cond _ rfl (fun hc11 => ?_) (fun hc11 => ?_)
                  · skip
                    refine AWp.region ?_
                    refine AList.c 140 rfl rfl rfl (OpJ.move rfl rfl) ?_
                    refine AList.c 141 rfl rfl rfl (OpJ.add (m := ((runN (itm (grp (gt Pck.d p i).colours)) j + 1 : Nat) : Int)) rfl rfl rfl ((i64ok ?_).trans ?_)) ?_
                    · unfold runN; omega
                    · rfl
                    refine AList.c 20 rfl rfl rfl (OpJ.assign rfl rfl) ?_
                    refine AList.nil ?_
                    refine AWp.region ?_
                    refine AList.c 147 rfl rfl rfl (OpJ.add rfl rfl rfl (i64ok ?_)) ?_
                    · omega
                    refine AList.c 134 rfl rfl rfl (OpJ.move rfl rfl) ?_
                    refine AList.nil ?_
                    refine ⟨j + 1, ?_, ?_, ?_⟩
                    · exact hj1
                    · omega
                    have e1 : runN (itm (grp (gt Pck.d p i).colours)) (j + 1) = runN (itm (grp (gt Pck.d p i).colours)) j + 1 := by have h := hc11; rw [wrd_at hj1, mem_45 z1 z2] at h; exact (cntP_step isRun (by omega)).trans (by rw [h]; rfl)
                    have e2 : alN (itm (grp (gt Pck.d p i).colours)) (j + 1) = alN (itm (grp (gt Pck.d p i).colours)) j + 0 := by have h := hc11; rw [wrd_at hj1, mem_45 z1 z2] at h; exact (cntP_step isAl (by omega)).trans (by rw [isAl_run h]; rfl)
                    rw [e1, e2]
                    exact To.done [0] rfl (by repeat (first | exact Sub.nil | refine Sub.cons rfl ?_)) rfl
                  · skip
                    refine AWp.seq ?_
                    refine AWp.region ?_
                    refine AList.c 142 rfl rfl rfl (OpJ.move rfl rfl) ?_
                    refine AList.c 143 rfl rfl rfl (OpJ.callP (contains_ok (gt [] (wrds (gt Pck.d p i).colours) j) 120 (by omega)) rfl rfl rfl rfl rf15) ?_
                    refine AList.c 144 rfl rfl rfl (OpJ.not_ rfl rfl) ?_
                    refine AList.nil ?_
                    refine AWp.cond _ rfl (fun hc12 => ?_) (fun hc12 => ?_)
                    · skip
                      refine AWp.region ?_
                      refine AList.c 145 rfl rfl rfl (OpJ.move rfl rfl) ?_
                      refine AList.c 146 rfl rfl rfl (OpJ.add (m := ((alN (itm (grp (gt Pck.d p i).colours)) j + 1 : Nat) : Int)) rfl rfl rfl ((i64ok ?_).trans ?_)) ?_
                      · unfold alN; omega
                      · rfl
                      refine AList.c 21 rfl rfl rfl (OpJ.assign rfl rfl) ?_
                      refine AList.nil ?_
                      refine AWp.region ?_
                      refine AList.c 147 rfl rfl rfl (OpJ.add rfl rfl rfl (i64ok ?_)) ?_
                      · omega
                      refine AList.c 134 rfl rfl rfl (OpJ.move rfl rfl) ?_
                      refine AList.nil ?_
                      refine ⟨j + 1, ?_, ?_, ?_⟩
                      · exact hj1
                      · omega
                      have e1 : runN (itm (grp (gt Pck.d p i).colours)) (j + 1) = runN (itm (grp (gt Pck.d p i).colours)) j + 0 := by have h := hc11; rw [wrd_at hj1, mem_45 z1 z2] at h; exact (cntP_step isRun (by omega)).trans (by rw [h]; rfl)
                      have e2 : alN (itm (grp (gt Pck.d p i).colours)) (j + 1) = alN (itm (grp (gt Pck.d p i).colours)) j + 1 := by have h := hc11; rw [wrd_at hj1, mem_45 z1 z2] at h; have h2 := hc12; rw [wrd_at hj1, mem_120 z1 z2 h] at h2; exact (cntP_step isAl (by omega)).trans (by rw [h2]; rfl)
                      rw [e1, e2]
                      exact To.done [0] rfl (by repeat (first | exact Sub.nil | refine Sub.cons rfl ?_)) rfl
                    · skip
                      refine AWp.skip ?_
                      refine AWp.region ?_
                      refine AList.c 147 rfl rfl rfl (OpJ.add rfl rfl rfl (i64ok ?_)) ?_
                      · omega
                      refine AList.c 134 rfl rfl rfl (OpJ.move rfl rfl) ?_
                      refine AList.nil ?_
                      refine ⟨j + 1, ?_, ?_, ?_⟩
                      · exact hj1
                      · omega
                      have e1 : runN (itm (grp (gt Pck.d p i).colours)) (j + 1) = runN (itm (grp (gt Pck.d p i).colours)) j + 0 := by have h := hc11; rw [wrd_at hj1, mem_45 z1 z2] at h; exact (cntP_step isRun (by omega)).trans (by rw [h]; rfl)
                      have e2 : alN (itm (grp (gt Pck.d p i).colours)) (j + 1) = alN (itm (grp (gt Pck.d p i).colours)) j + 0 := by have h := hc11; rw [wrd_at hj1, mem_45 z1 z2] at h; have h2 := hc12; rw [wrd_at hj1, mem_120 z1 z2 h] at h2; exact (cntP_step isAl (by omega)).trans (by rw [h2]; rfl)
                      rw [e1, e2]
                      exact To.done [0] rfl (by repeat (first | exact Sub.nil | refine Sub.cons rfl ?_)) rfl
                · skip
                  have hj2 : j = (wrds (gt Pck.d p i).colours).length := by have h : ¬ ((j : Int) < ((wrds (gt Pck.d p i).colours).length : Int)) := of_decide_eq_false hc10; omega
                  subst hj2
                  rw [hwn]
                  refine AWp.exit ?_
                  refine AWp.seq ?_
                  refine AWp.region ?_
                  refine AList.c 148 rfl rfl rfl (OpJ.move rfl rfl) ?_
                  refine AList.c 149 rfl rfl rfl (OpJ.lenSlice rfl rfl sl22 rfl) ?_
                  refine AList.c 150 rfl rfl rfl (OpJ.move rfl rfl) ?_
                  refine AList.c 151 rfl rfl rfl (OpJ.gtr rfl rfl rfl) ?_
                  refine AList.c 152 rfl rfl rfl (OpJ.move rfl rfl) ?_
                  refine AList.g 153 152 rfl rfl rfl rfl rfl rfl rfl [(18, _)] (fun h => And.intro (.inl rfl) (trivial)) (fun h => (OpJ.move rfl rfl)) ?_
                  refine AList.g 154 152 rfl rfl rfl rfl rfl rfl rfl [(153, _)] (fun h => And.intro (.inr ⟨_, rfl, h⟩) (trivial)) (fun h => (OpJ.lenSlice rfl rfl sl22 rfl)) ?_
                  refine AList.g 155 152 rfl rfl rfl rfl rfl rfl rfl [(20, _)] (fun h => And.intro (.inl rfl) (trivial)) (fun h => (OpJ.move rfl rfl)) ?_
                  refine AList.g 156 152 rfl rfl rfl rfl rfl rfl rfl [(155, _)] (fun h => And.intro (.inr ⟨_, rfl, h⟩) (trivial)) (fun h => (OpJ.mul rfl rfl rfl (i64ok ?_))) ?_
                  · omega
                  refine AList.g 157 152 rfl rfl rfl rfl rfl rfl rfl [(154, _), (156, _)] (fun h => And.intro (.inr ⟨_, rfl, h⟩) (And.intro (.inr ⟨_, rfl, h⟩) (trivial))) (fun h => (OpJ.add rfl rfl rfl (i64ok ?_))) ?_
                  · omega
                  refine AList.g 158 152 rfl rfl rfl rfl rfl rfl rfl [(19, _)] (fun h => And.intro (.inl rfl) (trivial)) (fun h => (OpJ.move rfl rfl)) ?_
                  refine AList.g 159 152 rfl rfl rfl rfl rfl rfl rfl [(157, _), (158, _)] (fun h => And.intro (.inr ⟨_, rfl, h⟩) (And.intro (.inr ⟨_, rfl, h⟩) (trivial))) (fun h => (OpJ.gtr rfl rfl rfl)) ?_
                  refine AList.c 160 rfl rfl rfl (OpJ.or_ rfl rfl rfl ?_) ?_
                  · first | (intro h; rw [h]; rfl) | (intro h; simp_all)
                  refine AList.c 161 rfl rfl rfl (OpJ.move rfl rfl) ?_
                  refine AList.g 162 161 rfl rfl rfl rfl rfl rfl rfl [(20, _)] (fun h => And.intro (.inl rfl) (trivial)) (fun h => (OpJ.move rfl rfl)) ?_
                  refine AList.g 163 161 rfl rfl rfl rfl rfl rfl rfl [(162, _)] (fun h => And.intro (.inr ⟨_, rfl, h⟩) (trivial)) (fun h => (OpJ.eql rfl rfl rfl)) ?_
                  refine AList.g 164 161 rfl rfl rfl rfl rfl rfl rfl [(163, _)] (fun h => And.intro (.inr ⟨_, rfl, h⟩) (trivial)) (fun h => (OpJ.move rfl rfl)) ?_
                  refine AList.g 165 164 rfl rfl rfl rfl rfl rfl rfl [(18, _)] (fun h => And.intro (.inl rfl) (trivial)) (fun h => (OpJ.move rfl rfl)) ?_
                  refine AList.g 166 164 rfl rfl rfl rfl rfl rfl rfl [(165, _)] (fun h => And.intro (.inr ⟨_, rfl, h⟩) (trivial)) (fun h => (OpJ.lenSlice rfl rfl sl22 rfl)) ?_
                  refine AList.g 167 164 rfl rfl rfl rfl rfl rfl rfl [(19, _)] (fun h => And.intro (.inl rfl) (trivial)) (fun h => (OpJ.move rfl rfl)) ?_
                  refine AList.g 168 164 rfl rfl rfl rfl rfl rfl rfl [(166, _), (167, _)] (fun h => And.intro (.inr ⟨_, rfl, h⟩) (And.intro (.inr ⟨_, rfl, h⟩) (trivial))) (fun h => (OpJ.neq rfl rfl rfl)) ?_
                  refine AList.g 169 161 rfl rfl rfl rfl rfl rfl rfl [(164, _), (168, _)] (fun h => And.intro (.inr ⟨_, rfl, h⟩) (And.intro (.inl rfl) (trivial))) (fun h => (OpJ.and_ rfl rfl rfl ?_)) ?_
                  · first | (intro h; rw [h]; rfl) | (intro h; simp_all)
                  refine AList.c 170 rfl rfl rfl (OpJ.or_ rfl rfl rfl ?_) ?_
                  · first | (intro h; rw [h]; rfl) | (intro h; simp_all)
                  refine AList.c 171 rfl rfl rfl (OpJ.move rfl rfl) ?_
                  refine AList.g 172 171 rfl rfl rfl rfl rfl rfl rfl [(21, _)] (fun h => And.intro (.inl rfl) (trivial)) (fun h => (OpJ.move rfl rfl)) ?_
                  refine AList.g 173 171 rfl rfl rfl rfl rfl rfl rfl [(14, _)] (fun h => And.intro (.inl rfl) (trivial)) (fun h => (OpJ.fieldAddr rfl rfl fd46_1 rfl)) ?_
                  refine AList.g 174 171 rfl rfl rfl rfl rfl rfl rfl [(173, _)] (fun h => And.intro (.inr ⟨_, rfl, h⟩) (trivial)) (fun h => (OpJ.load (v := .p (intsV (gt Pck.d p i).colours)) rfl rfl ty44 rfl)) ?_
                  refine AList.g 175 171 rfl rfl rfl rfl rfl rfl rfl [(174, _)] (fun h => And.intro (.inr ⟨_, rfl, h⟩) (trivial)) (fun h => (OpJ.lenSlice rfl rfl sl44 rfl)) ?_
                  refine AList.g 176 171 rfl rfl rfl rfl rfl rfl rfl [(172, _), (175, _)] (fun h => And.intro (.inr ⟨_, rfl, h⟩) (And.intro (.inr ⟨_, rfl, h⟩) (trivial))) (fun h => (OpJ.gtr rfl rfl rfl)) ?_
                  refine AList.c 177 rfl rfl rfl (OpJ.or_ rfl rfl rfl ?_) ?_
                  · first | (intro h; rw [h]; rfl) | (intro h; simp_all)
                  refine AList.nil ?_
                  refine AWp.cond _ rfl (fun hc13 => ?_) (fun hc13 => ?_)
                  · skip
                    exfalso
                    simp only [Bool.or_eq_true, Bool.and_eq_true, decide_eq_true_eq, Bool.not_eq_true', decide_eq_false_iff_not] at hc13
                    omega
                  · skip
                    refine AWp.skip ?_
                    refine AWp.region ?_
                    refine AList.c 178 rfl rfl rfl (OpJ.add rfl rfl rfl (i64ok ?_)) ?_
                    · omega
                    refine AList.c 91 rfl rfl rfl (OpJ.move rfl rfl) ?_
                    refine AList.nil ?_
                    refine ⟨i + 1, ?_, ?_, ?_⟩
                    · exact hk0
                    · omega
                    exact To.done [] rfl (by repeat (first | exact Sub.nil | refine Sub.cons rfl ?_)) rfl
          · skip
            refine AWp.exit ?_
            refine AWp.seq ?_
            refine AWp.region ?_
            refine AList.c 179 rfl rfl rfl (OpJ.callP (alive_ok) rfl rfl rfl rfl rf8) ?_
            refine AList.c 4 rfl rfl rfl (OpJ.assign rfl rfl) ?_
            refine AList.nil ?_
            refine AWp.ret ?_
            first | exact Fin.oneE rfl rfl rfl | (refine Fin.oneE rfl rfl ?_; rw [he]; rfl)
theorem bookLines_law {x0 x1 : List PV} (h0 : TyL [.sl shR] x0) (h1 : TyL [.sl shP] x1) : Pure Tryz.prog 4 [argP false x0, argP false x1] (.bool true) := by
  obtain ⟨r, rfl, hr, hrs⟩ := rpts_of h0
  obtain ⟨p, rfl, hp, hps⟩ := pcks_of h1
  exact bookLines_ok r p hr hrs hp hps
end Go.Proofs.YtambmifhidallaaGreatDoor
end
