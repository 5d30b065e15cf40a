/-
  Contracts of the library's shelf, laid at this program by the kit's tool.
  TopPacks, plain: what a box holds, its list, the lines of all lists, how many pencils of each shade they have.
  strings.Index at one byte (the shelf's templates at this program), strings.Split and strings.Cut at one byte.
-/
import Derived.Shelf.LaysM
import Derived.Shelf.Strconv.Itoa3
import Derived.Shelf.Bits.Mul64
import Derived.Shelf.Strings.SplitCore
import Derived.Test.YtbnemnhmejmeeaaGreatDoorProg
import Derived.Test.YtbnemnhmejmeeaaGreatDoorXqP
import Derived.Test.YtbnemnhmejmeeaaGreatDoorTqP
import Derived.Lib.IndexBytes
import Derived.Lib.SplitLaws
import Derived.Test.YtbnemnhmejmeeaaGreatDoorNqA
import Derived.Test.YtbnemnhmejmeeaaGreatDoorFaE
import Derived.Test.YtbnemnhmejmeeaaGreatDoorXqF
import Derived.Lib.Strings
import Derived.Lib.Slices
import Derived.Lib.Walk
import Derived.Lib.Bytealg
section
namespace Go.Proofs
open Go.Shelf
def Tryz.lays221_ren : Go.Shelf.Ren := ⟨fun | 221 => 56 | 268 => 94 | 138 => 9 | 143 => 33 | 195 => 31 | 197 => 118 | 218 => 32 | 219 => 76 | 260 => 138 | 217 => 102 | 225 => 103 | 224 => 104 | 267 => 105 | 266 => 127 | 314 => 128 | n => n, fun | 9 => 9 | 3 => 3 | 31 => 61 | 4 => 4 | 0 => 0 | 105 => 200 | 21 => 21 | 5 => 5 | 46 => 176 | 119 => 232 | 139 => 235 | 138 => 234 | 146 => 213 | 51 => 170 | n => n, fun | 1 => 0 | 3 => 1 | 4 => 2 | n => n⟩
theorem Tryz.lays221 : Go.Proofs.Lays.n221 Tryz.prog Tryz.lays221_ren := {
  mixed := by kernel_rfl
  f138 := Tryz.func9.trans (congrArg some (by kernel_rfl))
  f143 := Tryz.func33.trans (congrArg some (by kernel_rfl))
  f195 := Tryz.func31.trans (congrArg some (by kernel_rfl))
  f197 := Tryz.func118.trans (congrArg some (by kernel_rfl))
  f217 := Tryz.func102.trans (congrArg some (by kernel_rfl))
  f218 := Tryz.func32.trans (congrArg some (by kernel_rfl))
  f219 := Tryz.func76.trans (congrArg some (by kernel_rfl))
  f221 := Tryz.func56.trans (congrArg some (by kernel_rfl))
  f224 := Tryz.func104.trans (congrArg some (by kernel_rfl))
  f225 := Tryz.func103.trans (congrArg some (by kernel_rfl))
  f260 := Tryz.func138.trans (congrArg some (by kernel_rfl))
  f266 := Tryz.func127.trans (congrArg some (by kernel_rfl))
  f267 := Tryz.func105.trans (congrArg some (by kernel_rfl))
  f268 := Tryz.func94.trans (congrArg some (by kernel_rfl))
  f314 := Tryz.func128.trans (congrArg some (by kernel_rfl))
  t0 := Tryz.underlying0
  a0 := Tryz.isAgg0
  z0 := Tryz.sizeOf0
  v0 := Tryz.zeroValue0
  t3 := Tryz.underlying3
  a3 := Tryz.isAgg3
  z3 := Tryz.sizeOf3
  v3 := Tryz.zeroValue3
  t4 := Tryz.underlying4
  a4 := Tryz.isAgg4
  z4 := Tryz.sizeOf4
  v4 := Tryz.zeroValue4
  t5 := Tryz.underlying5
  a5 := Tryz.isAgg5
  z5 := Tryz.sizeOf5
  v5 := Tryz.zeroValue5
  t9 := Tryz.underlying9
  a9 := Tryz.isAgg9
  z9 := Tryz.sizeOf9
  v9 := Tryz.zeroValue9
  t21 := Tryz.underlying21
  a21 := Tryz.isAgg21
  z21 := Tryz.sizeOf21
  v21 := Tryz.zeroValue21
  t31 := Tryz.underlying61
  a31 := Tryz.isAgg61
  z31 := Tryz.sizeOf61
  v31 := Tryz.zeroValue61
  t46 := Tryz.underlying176
  a46 := Tryz.isAgg176
  z46 := Tryz.sizeOf176
  v46 := Tryz.zeroValue176
  t51 := Tryz.underlying170
  a51 := Tryz.isAgg170
  z51 := Tryz.sizeOf170
  v51 := Tryz.zeroValue170
  t105 := Tryz.underlying200
  a105 := Tryz.isAgg200
  z105 := Tryz.sizeOf200
  v105 := Tryz.zeroValue200
  t119 := Tryz.underlying232
  a119 := Tryz.isAgg232
  z119 := Tryz.sizeOf232
  t138 := Tryz.underlying234
  a138 := Tryz.isAgg234
  z138 := Tryz.sizeOf234
  v138 := Tryz.zeroValue234
  t139 := Tryz.underlying235
  a139 := Tryz.isAgg235
  z139 := Tryz.sizeOf235
  v139 := Tryz.zeroValue235
  t146 := Tryz.underlying213
  a146 := Tryz.isAgg213
  z146 := Tryz.sizeOf213
  v146 := Tryz.zeroValue213
  g1 := by kernel_rfl
  g3 := by kernel_rfl
  g4 := by kernel_rfl }
end Go.Proofs
end

section
set_option linter.unusedVariables false
set_option linter.unusedSimpArgs false
namespace Go.Proofs.YtbnemnhmejmeeaaGreatDoor
open Go.AF
/-! ### Colours -/
def colF (need : List Int) : Nat → List Int
  | 0 => []
  | k + 1 => colF need k ++ List.replicate (Bk.gt 0 need k).toNat (k : Int)
def colG (need : List Int) (k t : Nat) : List Int := colF need k ++ List.replicate t (k : Int)
theorem colG_next (need : List Int) (k : Nat) : colG need (k + 1) 0 = colG need k (Bk.gt 0 need k).toNat := by
  unfold colG; rw [List.replicate_zero, List.append_nil]; rfl
theorem colG_0 (need : List Int) (k : Nat) : colG need k 0 = colF need k := by unfold colG; simp
theorem colG_succ (need : List Int) (k t : Nat) : colG need k (t + 1) = colG need k t ++ [(k : Int)] := by
  unfold colG; rw [List.replicate_succ', List.append_assoc]
theorem colF_sum {need : List Int} (hn : ∀ x ∈ need, 0 ≤ x) : ∀ k, k ≤ need.length → ((colF need k).length : Int) = (need.take k).sum
  | 0, _ => by simp [colF]
  | k + 1, h => by
    have ih := colF_sum hn k (by omega)
    have h0 := hn _ (Bk.gt_mem 0 (show k < need.length by omega))
    rw [Bx.take_sum (show k < need.length by omega), Bk.gt_get 0 k (by omega), ← ih]
    show ((colF need k ++ List.replicate (Bk.gt 0 need k).toNat (k : Int)).length : Int) = _
    rw [List.length_append, List.length_replicate]
    omega
theorem colF_B {need : List Int} (hn : ∀ x ∈ need, 0 ≤ x ∧ x ≤ 48) : ∀ k, k ≤ need.length → (colF need k).length ≤ 48 * k
  | 0, _ => Nat.le_refl _
  | k + 1, h => by
    have ih := colF_B hn k (by omega)
    have h0 := hn _ (Bk.gt_mem 0 (show k < need.length by omega))
    show (colF need k ++ List.replicate (Bk.gt 0 need k).toNat (k : Int)).length ≤ _
    rw [List.length_append, List.length_replicate]
    omega
theorem colF_lt (need : List Int) : ∀ k, ∀ x ∈ colF need k, 0 ≤ x ∧ x < (k : Int)
  | 0, x, hx => by cases hx
  | k + 1, x, hx => by
    unfold colF at hx
    rcases List.mem_append.1 hx with h | h
    · have := colF_lt need k x h; omega
    · have := List.eq_of_mem_replicate h; omega
theorem colF_pair (need : List Int) : ∀ k, (colF need k).Pairwise (· ≤ ·)
  | 0 => List.Pairwise.nil
  | k + 1 => by
    unfold colF
    rw [List.pairwise_append]
    refine ⟨colF_pair need k, ?_, fun x hx y hy => ?_⟩
    · rw [List.pairwise_replicate]; exact .inr (Int.le_refl _)
    · have h1 := colF_lt need k x hx
      have h2 := List.eq_of_mem_replicate hy
      omega
theorem colsB_of : ∀ (l : List Int) (last : Int), l.Pairwise (· ≤ ·) → (∀ x ∈ l, last ≤ x ∧ x ≤ 99) → Bk.colsB last l = true
  | [], _, _, _ => rfl
  | c :: cs, last, hp, hb => by
    obtain ⟨h1, h2⟩ := List.pairwise_cons.1 hp
    unfold Bk.colsB
    rw [colsB_of cs c h2 fun x hx => ⟨h1 x hx, (hb x (List.mem_cons_of_mem _ hx)).2⟩]
    have := hb c List.mem_cons_self
    unfold Bk.inB
    simp only [Bool.and_eq_true, decide_eq_true_eq, and_true]
    exact this
theorem colF_count (need : List Int) : ∀ (n k : Nat), k < n → (colF need n).count (k : Int) = (Bk.gt 0 need k).toNat
  | 0, k, h => by omega
  | n + 1, k, h => by
    unfold colF
    rw [List.count_append, List.count_replicate]
    by_cases e : k = n
    · subst e
      have h0 : (colF need k).count (k : Int) = 0 := List.count_eq_zero.2 fun hm => by have := colF_lt need k _ hm; omega
      rw [h0]; simp
    · rw [colF_count need n k (by omega), if_neg (by simp; omega)]; rfl
/-! ### Packs -/
def pkOf (a : Nat) (cs : List Int) (i : Nat) : Bk.Pck := ⟨(a : Int) + (i : Int), cs⟩
def pksOf (a : Nat) (cs : List Int) (n : Nat) : List Bk.Pck := (List.range n).map (pkOf a cs)
theorem pksOf_succ (a : Nat) (cs : List Int) (n : Nat) : pksOf a cs (n + 1) = pksOf a cs n ++ [pkOf a cs n] := by unfold pksOf; rw [List.range_succ, List.map_append]; rfl
theorem pksOf_len (a : Nat) (cs : List Int) (n : Nat) : (pksOf a cs n).length = n := by simp [pksOf]
theorem pksOf_at (a : Nat) (cs : List Int) {n i : Nat} (h : i < n) : Bk.gt Bk.Pck.d (pksOf a cs n) i = pkOf a cs i := by
  rw [← Bk.gt_get Bk.Pck.d i (by rw [pksOf_len]; exact h)]
  simp [pksOf]
theorem pksOf_cells (a : Nat) (cs : List Int) (n : Nat) : (pksOf a cs (n + 1)).flatMap Bk.Pck.cells = (pksOf a cs n).flatMap Bk.Pck.cells ++ (pkOf a cs n).cells := by
  rw [pksOf_succ, List.flatMap_append]; simp
theorem pksOf_rise {a : Nat} {cs : List Int} (ha : a ≤ 65535) (hp : ∀ i, Bk.pckB (pkOf a cs i) = true) : ∀ (k s : Nat) (last : Int), s + k ≤ 30 → last < (a : Int) + (s : Int) → Bk.riseB Bk.Pck.box Bk.pckB last ((List.range' s k).map (pkOf a cs)) = true
  | 0, s, last, _, _ => rfl
  | k + 1, s, last, h1, h2 => by
    rw [List.range'_succ, List.map_cons]
    unfold Bk.riseB
    rw [hp, pksOf_rise ha hp k (s + 1) _ (by omega) (by show (a : Int) + (s : Int) < _; omega)]
    have e : Bk.inB (Bk.Pck.box (pkOf a cs s)) (last + 1) 1000000 = true := by
      unfold Bk.inB pkOf
      simp only [Bool.and_eq_true, decide_eq_true_eq]
      omega
    rw [e]; rfl
theorem pksOf_wr {a n : Nat} {cs : List Int} (ha : a ≤ 65535) (hn : n ≤ 30) (hB : Bk.colsB 0 cs = true) (h1 : 1 ≤ cs.length) (h48 : cs.length ≤ 48) : Bk.wrP (pksOf a cs n) = (Bk.pcksT (pksOf a cs n), 0) := by
  refine Bk.wrP_yes ?_
  have hp : ∀ i, Bk.pckB (pkOf a cs i) = true := fun i => by
    unfold Bk.pckB
    rw [show (pkOf a cs i).colours = cs from rfl, hB]
    unfold Bk.inB
    simp only [Bool.true_and, Bool.and_eq_true, decide_eq_true_eq]
    omega
  have hv : Bk.pcksB (pksOf a cs n) = true := by
    unfold Bk.pcksB pksOf
    rw [List.range_eq_range']
    exact pksOf_rise ha hp n 0 (-1) (by omega) (by omega)
  unfold Bk.chkN
  rw [pksOf_len, hv, if_neg (by omega)]; rfl
/-! ### Lines -/
theorem idx_hit (c : UInt8) : ∀ (x t : List UInt8), (∀ b ∈ x, b ≠ c) → Lib.indexByte (x ++ c :: t) c = x.length
  | [], t, _ => by simp [Lib.indexByte]
  | b :: x, t, h => by
    have ih := idx_hit c x t fun y hy => h y (List.mem_cons_of_mem _ hy)
    have hb := h b List.mem_cons_self
    show (if (b == c) = true then 0 else if (Lib.indexByte (x ++ c :: t) c == -1) = true then -1 else Lib.indexByte (x ++ c :: t) c + 1) = _
    rw [if_neg (by simpa using hb), ih, if_neg (by first | (simp; done) | (simp; omega))]
    first | (simp; done) | rfl
theorem split_lines : ∀ (ls : List Bk.Bs), (∀ x ∈ ls, ∀ b ∈ x, b ≠ 10) → Lib.splitK [10] 0 ls.length (ls.flatMap fun x => x ++ [10]) = ls ++ [[]]
  | [], _ => rfl
  | x :: ls, h => by
    have e : (x :: ls).flatMap (fun x => x ++ [10]) = x ++ 10 :: ls.flatMap (fun x => x ++ [10]) := by simp
    have hi : Lib.index (x ++ 10 :: ls.flatMap (fun x => x ++ [10])) [10] = x.length := by rw [Lib.index_one]; exact idx_hit 10 x _ (h x List.mem_cons_self)
    have hd : (x ++ 10 :: ls.flatMap (fun x => x ++ [10])).drop (x.length + [(10 : UInt8)].length) = ls.flatMap (fun x => x ++ [10]) := by
      have e1 : x ++ 10 :: ls.flatMap (fun x => x ++ [10]) = (x ++ [10]) ++ ls.flatMap (fun x => x ++ [10]) := by simp
      have e2 : x.length + [(10 : UInt8)].length = (x ++ [10]).length := by simp
      rw [e1, e2, List.drop_left]
    rw [e, List.length_cons, Lib.splitK]
    rw [hi, if_neg (by first | (simp; done) | (simp; omega)), Int.toNat_natCast, Nat.add_zero, List.take_left]
    rw [hd]
    rw [split_lines ls fun y hy => h y (List.mem_cons_of_mem _ hy)]
    rfl
theorem splitB_lines (ls : List Bk.Bs) (h : ∀ x ∈ ls, ∀ b ∈ x, b ≠ 10) : Lib.splitB (sB [10]) 0 ls.length (sB (ls.flatMap fun x => x ++ [10])) = (ls ++ [[]]).map sB := by
  have e := Lib.splitB_data (sB [10]) 0 ls.length (sB (ls.flatMap fun x => x ++ [10]))
  have e2 : (sB [10]).data.toList = [10] := rfl
  have e3 : (sB (ls.flatMap fun x => x ++ [10])).data.toList = ls.flatMap fun x => x ++ [10] := by unfold sB; simp
  rw [e2, e3, split_lines ls h] at e
  rw [← e, List.map_map]
  conv => lhs; rw [← List.map_id (Lib.splitB _ _ _ _)]
  apply List.map_congr_left
  intro y _
  show y = sB y.data.toList
  unfold sB
  simp
theorem countB_lines (ls : List Bk.Bs) (h : ∀ x ∈ ls, ∀ b ∈ x, b ≠ 10) : Lib.countB (sB (ls.flatMap fun x => x ++ [10])) (sB [10]) = ls.length := by
  have e3 : (sB (ls.flatMap fun x => x ++ [10])).data.toList = ls.flatMap fun x => x ++ [10] := by unfold sB; simp
  show Lib.count (sB (ls.flatMap fun x => x ++ [10])).data.toList (sB [10]).data.toList = _
  rw [e3]
  show Lib.count _ [10] = _
  rw [Lib.count_one]
  exact count_lines ls h
theorem pcksT_lines (ps : List Bk.Pck) : Bk.pcksT ps = (ps.map Bk.pckN).flatMap fun x => x ++ [10] := by
  unfold Bk.pcksT
  rw [List.flatMap_map]
  rfl
theorem itoa_58 {n : Int} (h : 0 ≤ n) : ∀ b ∈ Lib.itoa n, b ≠ 58 := by
  rw [Bk.itoa_nat h]
  intro b hb e
  subst e
  have := Bk.dec_all _ _ hb
  revert this; decide
/-! ### How many -/
def itemN (cs : List Int) : Nat → Bk.Bs
  | 0 => []
  | _ + 1 => Bk.itmsT cs
def havF (cs : List Int) (L i t : Nat) : List Int := (List.range L).map fun (k : Nat) => (i : Int) * (cs.count (k : Int) : Int) + ((cs.take t).count (k : Int) : Int)
theorem havF_len (cs : List Int) (L i t : Nat) : (havF cs L i t).length = L := by simp [havF]
theorem havF_get {cs : List Int} {L i t k : Nat} (h : k < L) : Bk.gt 0 (havF cs L i t) k = (i : Int) * (cs.count (k : Int) : Int) + ((cs.take t).count (k : Int) : Int) := by
  rw [← Bk.gt_get 0 k (by rw [havF_len]; exact h)]
  simp [havF]
theorem havF_0 (cs : List Int) (L : Nat) : (List.replicate L [PV.int .i64 0]).flatten = (havF cs L 0 0).flatMap Bk.intC := by
  have e : havF cs L 0 0 = List.replicate L 0 := by
    apply List.ext_getElem
    · simp [havF]
    · intro k h1 h2; simp [havF]
  rw [e, List.flatMap_def, List.map_replicate]; rfl
theorem havF_next (cs : List Int) (L i : Nat) : havF cs L (i + 1) 0 = havF cs L i cs.length := by
  unfold havF
  apply List.map_congr_left
  intro k _
  rw [List.take_zero, List.take_length, List.count_nil]
  push_cast
  rw [Int.add_mul]; omega
theorem havF_set {cs : List Int} {L i t c : Nat} (ht : t < cs.length) (hc : Bk.gt 0 cs t = (c : Int)) (hcL : c < L) : (havF cs L i t).set c (Bk.gt 0 (havF cs L i t) c + 1) = havF cs L i (t + 1) := by
  apply List.ext_getElem
  · simp [havF]
  · intro k h1 h2
    have hk : k < L := by rw [havF_len] at h2; exact h2
    rw [List.getElem_set, Bk.gt_get 0 k h2, Bk.gt_get 0 k (by rw [havF_len]; exact hk), havF_get hk, havF_get hk, havF_get hcL]
    have e : (cs.take (t + 1)) = cs.take t ++ [(c : Int)] := by rw [List.take_succ_eq_append_getElem ht, Bk.gt_get 0 t ht, hc]
    rw [e, List.count_append]
    by_cases q : c = k
    · subst q; rw [if_pos rfl]; simp; omega
    · rw [if_neg q, List.count_singleton, if_neg (by simp; omega)]; simp
theorem havF_B {cs : List Int} {L i t k : Nat} (h : k < L) (hi : i ≤ 30) (h48 : cs.length ≤ 48) : 0 ≤ Bk.gt 0 (havF cs L i t) k ∧ Bk.gt 0 (havF cs L i t) k ≤ 1488 := by
  rw [havF_get h]
  have h1 : cs.count (k : Int) ≤ 48 := Nat.le_trans List.count_le_length h48
  have h2 : (cs.take t).count (k : Int) ≤ 48 := Nat.le_trans List.count_le_length (by rw [List.length_take]; omega)
  have h3 : i * cs.count (k : Int) ≤ 30 * 48 := Nat.mul_le_mul hi h1
  have h4 : (i : Int) * (cs.count (k : Int) : Int) = ((i * cs.count (k : Int) : Nat) : Int) := (Int.natCast_mul _ _).symm
  rw [h4]
  omega
theorem hav_V (cs : List Int) (L i t : Nat) : V.p (.is ((havF cs L i t).flatMap Bk.intC) L) = V.p (Bk.intsV (havF cs L i t)) := by unfold Bk.intsV; rw [havF_len]
end Go.Proofs.YtbnemnhmejmeeaaGreatDoor
end

section
set_option linter.unusedVariables false
set_option maxRecDepth 100000
set_option maxHeartbeats 4000000
namespace Go.Proofs
theorem Tryz.stringslite_IndexByte (s : ByteArray) (c : Int) (w : World) :
    Calls Tryz.prog 102 #[.string s, .int .u8 c] w fun e w' => e = .returned (.int .i64 (Lib.indexByte s.data.toList c.toNat.toUInt8)) ∧ w' = w := by
  go_enter Tryz.func102, Tryz.ntmps102
  go_wp2
  rw [run_callFunc_extern Tryz.func127 (by kernel_rfl) (by kernel_rfl) (by kernel_rfl) (e := Extern.BytealgIndexByte.indexByte) (by kernel_rfl), Lib.run_indexByteString]
  simp only [Result.andThen]
  rw [Oper.upon_value]
  go_wp2
  go_ret
  exact ⟨rfl, rfl⟩
theorem Tryz.stringslite_Index_one (s : ByteArray) (c : UInt8) (w : World) :
    Calls Tryz.prog 76 #[.string s, .string ⟨#[c]⟩] w fun e w' => e = .returned (.int .i64 (Lib.indexByte s.data.toList c)) ∧ w' = w := by
  go_enter Tryz.func76, Tryz.ntmps76
  go_wp2_with (go_at_call 102; refine (Tryz.stringslite_IndexByte _ _ _).mono ?_; rintro e w' ⟨rfl, rfl⟩)
  · have h : ([c] == s.toList) = true := by assumption
    go_ret
    refine ⟨?_, rfl⟩
    have e : s.data.toList = [c] := by rw [← Lib.toList_data]; exact (beq_iff_eq.1 h).symm
    rw [e]
    simp [Lib.indexByte]
  · go_ret
    exact ⟨rfl, rfl⟩
theorem Tryz.strings_Index_one (s : ByteArray) (c : UInt8) (w : World) :
    Calls Tryz.prog 33 #[.string s, .string ⟨#[c]⟩] w fun e w' => e = .returned (.int .i64 (Lib.indexByte s.data.toList c)) ∧ w' = w := by
  go_enter Tryz.func33, Tryz.ntmps33
  go_wp2_with (go_at_call 76; refine (Tryz.stringslite_Index_one _ _ _).mono ?_; rintro e w' ⟨rfl, rfl⟩)
  go_ret
  exact ⟨rfl, rfl⟩
end Go.Proofs
namespace Go.Proofs.YtbnemnhmejmeeaaGreatDoor
open Go.AF
theorem relL_strs (w : World) (I : Nat → Prop) : ∀ ss : List ByteArray, RelL w I (ss.map PV.str) (ss.map Value.string)
  | [] => rfl
  | x :: xs => ⟨_, _, rfl, rfl, relL_strs w I xs⟩
theorem Pure.ofStrs {f : FuncId} {us : List Value} {args : List PV} {ss : List ByteArray} {t : TypeId} (hrel : ∀ w I vs, RelL w I args vs → vs = us) (h : ∀ (w : World) (I : Nat → Prop), GOk Tryz.prog w I → Calls Tryz.prog f us.toArray w fun e w' => e = .returned (.slice (some ⟨w.heap.size, 0, none⟩) ss.length ss.length) ∧ w' = w.alloc (.cells (ss.map Value.string).toArray t)) : Pure Tryz.prog f args (.is (ss.map PV.str) ss.length) := by
  intro w I ρ vs hi hvs
  have e := hrel w I vs (RelVL.pure.1 hvs)
  subst e
  refine CallsIn.mono ((callsIn_wide (n := 0)).2 (h w I hi.gl)) ?_
  rintro e w' ⟨rfl, rfl⟩
  refine ⟨_, .p _, fun b => I b ∨ b = w.heap.size, ρ, [], rfl, ⟨rfl, rfl⟩, Ext.allocImm hi _, hi.allocImm _, ?_⟩
  refine .inr ⟨w.heap.size, 0, ss.length, fun _ => .inr rfl, Nat.le_refl _, rfl, ?_⟩
  refine RelAt.of_list (ss.map PV.str) (ss.map Value.string) 0 ?_ ?_
  · exact relL_strs _ _ ss
  · intro j u hu
    have e : (w.alloc (.cells (ss.map Value.string).toArray t)).heap[w.heap.size]? = some (.cells (ss.map Value.string).toArray t) := Array.getElem?_push_size
    unfold World.cell?
    simp only [e, Nat.zero_add]
    simpa using hu
theorem index_ok (s : Bk.Bs) (c : UInt8) : Pure Tryz.prog 76 [.str (sB s), .str (sB [c])] (.int .i64 (Lib.indexByte s c)) :=
  Pure.ofGrow (us := [.string (sB s), .string (sB [c])]) (fun w I vs h => by
    obtain ⟨u, us, rfl, h2, u2, us2, rfl, h3, h4⟩ := h
    have h2 : u = .string (sB s) := h2
    have h3 : u2 = .string (sB [c]) := h3
    have h4 : us2 = [] := h4
    rw [h2, h3, h4]) fun w I hg => (Tryz.stringslite_Index_one (sB s) c w).mono fun e w' ⟨h1, h2⟩ => ⟨_, h1, fun _ _ => by show _ = _; rw [show (sB s).data.toList = s by unfold sB; simp], 0, #[], by rw [h2, Go.Sort.grow_empty]; rfl⟩
theorem idxB_one (x : ByteArray) (c : UInt8) : Lib.indexB x (sB [c]) = Lib.indexByte x.data.toList c := Lib.index_one x.data.toList c
theorem genSplit_ok (ls : List Bk.Bs) (h : ∀ x ∈ ls, ∀ b ∈ x, b ≠ 10) (hs : (ls.flatMap fun x => x ++ [10]).length ≤ 1000000) : Pure Tryz.prog 56 [.str (sB (ls.flatMap fun x => x ++ [10])), .str (sB [10]), .int .i64 0, .int .i64 (-1)] (.is (((ls ++ [[]]).map sB).map PV.str) ((ls ++ [[]]).map sB).length) := by
  refine Pure.ofStrs (us := [.string (sB (ls.flatMap fun x => x ++ [10])), .string (sB [10]), .int .i64 0, .int .i64 (-1)]) (t := 9) (fun w I vs h => ?_) fun w I hg => ?_
  · obtain ⟨u, us, rfl, h2, u2, us2, rfl, h3, u3, us3, rfl, h4, u4, us4, rfl, h5, h6⟩ := h
    have h2 : u = _ := h2
    have h3 : u2 = _ := h3
    have h4 : u3 = _ := h4
    have h5 : u4 = _ := h5
    have h6 : us4 = [] := h6
    rw [h2, h3, h4, h5, h6]
  · have hsz : (sB (ls.flatMap fun x => x ++ [10])).size ≤ 1000000 := by rw [sB_size]; exact hs
    have hL := splitB_lines ls h
    have hcn := countB_lines ls h
    have hle : (ls.length : Int) + 1 ≤ ((sB (ls.flatMap fun x => x ++ [10])).size : Int) + 1 := by
      rw [sB_size, ← hcn]
      have : ls.length ≤ (ls.flatMap fun x => x ++ [10]).length := by
        rw [← count_lines ls h]; exact List.count_le_length
      rw [hcn]; omega
    have c := Any.strings_genSplit_core Tryz.lays221 (by kernel_rfl) (sB (ls.flatMap fun x => x ++ [10])) (sB [10]) 0 (-1) (ls.length + 1) w (by omega) (by decide) (Nat.zero_le _)
      (fun x cc hx => (Tryz.strings_Index_one x 10 _).mono fun e w' ⟨h1, h2⟩ => ⟨by rw [h1, idxB_one], h2⟩)
      ((Any.strings_Count_one Tryz.lays138 (sB (ls.flatMap fun x => x ++ [10])) 10 w).mono fun e w' ⟨h1, h2⟩ => ⟨by rw [h1]; show _ = Ending.returned (.int .i64 ((Lib.count (sB (ls.flatMap fun x => x ++ [10])).data.toList [10] : Nat) : Int)); rw [Lib.count_one]; rfl, h2⟩) (by decide) (by decide)
      (by rw [if_pos (by decide), hcn]; push_cast; omega)
    refine c.mono fun e w' ⟨h1, h2⟩ => ?_
    rw [Nat.add_sub_cancel, hL] at h1 h2
    refine ⟨?_, ?_⟩
    · rw [h1]; simp
    · rw [h2, show ls.length + 1 = ((ls ++ [[]]).map sB).length by simp, Lib.cellsOf_full]; rfl
end Go.Proofs.YtbnemnhmejmeeaaGreatDoor
end
