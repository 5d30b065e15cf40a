/-
  Builders; numbers in decimal.
  Contracts of the library's shelf, laid at this program by the kit's tool.
  Numbers in decimal.
  What a writer puts.
  What is valid.
-/
import Derived.Test.YtambmifhidallaaGreatDoorBqF
import Derived.Test.YtambmifhidallaaGreatDoorBqP
import Derived.Shelf.LaysM
import Derived.Shelf.Strconv.Itoa3
import Derived.Shelf.Bits.Mul64
import Derived.Shelf.Strings.Count
import Derived.Shelf.Strings.Search3
import Derived.Shelf.Strings.Cut
import Derived.Shelf.Strings.SplitCore
import Derived.Shelf.Strings.Replace
import Derived.Test.YtambmifhidallaaGreatDoorProg
section
set_option linter.unusedVariables false
set_option maxRecDepth 100000
set_option maxHeartbeats 4000000
set_option linter.unusedSimpArgs false
namespace Go.Proofs.YtambmifhidallaaGreatDoor
open Go.AF
theorem esc_ok : escI Tryz.prog 87 := ⟨_, Tryz.func87, by kernel_rfl, by kernel_rfl, by kernel_rfl, by kernel_rfl⟩
theorem lies_ok : liesAt Tryz.prog Tryz.prog.depth 87 (2 / Tryz.prog.cellsOf 87) 0 67 1 = true := by kernel_rfl
theorem cc_fresh (v : V) (B : Blk) : ACalls Tryz.prog 63 [.ptr 0 0] [.cells [.p .nilPtr, v] 87, B] fun r H' => r = .p (.tuple []) ∧ H' = [.cells [.ptr 0 0, v] 87, B] := by
  refine ACalls.start (N := 20) Tryz.func63 rfl rfl (Nat.le_of_ble_eq_true rfl) ?_
  refine AWp.seq ?_
  refine AWp.region ?_
  refine AList.c 2 rfl rfl rfl (OpJ.move rfl rfl) ?_
  refine AList.c 3 rfl rfl rfl (OpJ.nilCheck rfl rfl) ?_
  refine AList.c 4 rfl rfl rfl (OpJ.fieldAddr rfl rfl fd67_0 rfl) ?_
  refine AList.c 5 rfl rfl rfl (OpJ.load rfl rfl ty64 rfl) ?_
  refine AList.c 6 rfl rfl rfl (OpJ.ptrNil rfl rfl rfl pt64) ?_
  refine AList.nil ?_
  refine AWp.condT rfl ?_
  refine AWp.region ?_
  refine AList.c 7 rfl rfl rfl (OpJ.move rfl rfl) ?_
  refine AList.c 8 rfl rfl rfl (OpJ.move rfl rfl) ?_
  refine AList.c 9 rfl rfl rfl (OpJ.toUsp rfl rfl pt64 us144 (by decide) rfl (Nat.succ_pos _)) ?_
  refine AList.c 10 rfl rfl rfl (OpJ.noEsc rfl rfl esc_ok) ?_
  refine AList.c 11 rfl rfl rfl (OpJ.ofUsp rfl rfl us144 pt64 rfl lies_ok) ?_
  refine AList.c 12 rfl rfl rfl (OpJ.nilCheck rfl rfl) ?_
  refine AList.c 13 rfl rfl rfl (OpJ.fieldAddr rfl rfl fd67_0 rfl) ?_
  refine AList.c0 rfl rfl (OpJ.store rfl rfl rfl rfl rfl ty64 rfl rfl) ?_
  refine AList.nil ?_
  exact ⟨.inl rfl, _, resV.none_ rfl, rfl, rfl⟩
theorem cc_used (v : V) (B : Blk) : ACalls Tryz.prog 63 [.ptr 0 0] [.cells [.ptr 0 0, v] 87, B] fun r H' => r = .p (.tuple []) ∧ H' = [.cells [.ptr 0 0, v] 87, B] := by
  refine ACalls.start (N := 20) Tryz.func63 rfl rfl (Nat.le_of_ble_eq_true rfl) ?_
  refine AWp.seq ?_
  refine AWp.region ?_
  refine AList.c 2 rfl rfl rfl (OpJ.move rfl rfl) ?_
  refine AList.c 3 rfl rfl rfl (OpJ.nilCheck rfl rfl) ?_
  refine AList.c 4 rfl rfl rfl (OpJ.fieldAddr rfl rfl fd67_0 rfl) ?_
  refine AList.c 5 rfl rfl rfl (OpJ.load rfl rfl ty64 rfl) ?_
  refine AList.c 6 rfl rfl rfl (OpJ.ptrNot rfl rfl rfl pt64) ?_
  refine AList.nil ?_
  refine AWp.condF rfl ?_
  refine AWp.seq ?_
  refine AWp.region ?_
  refine AList.c 14 rfl rfl rfl (OpJ.move rfl rfl) ?_
  refine AList.c 15 rfl rfl rfl (OpJ.nilCheck rfl rfl) ?_
  refine AList.c 16 rfl rfl rfl (OpJ.fieldAddr rfl rfl fd67_0 rfl) ?_
  refine AList.c 17 rfl rfl rfl (OpJ.load rfl rfl ty64 rfl) ?_
  refine AList.c 18 rfl rfl rfl (OpJ.move rfl rfl) ?_
  refine AList.c 19 rfl rfl rfl (OpJ.ptrSame rfl rfl rfl pt64) ?_
  refine AList.nil ?_
  refine AWp.condF rfl ?_
  refine AWp.skip ?_
  exact ⟨.inl rfl, _, resV.none_ rfl, rfl, rfl⟩
theorem cc_ok (l : Bs) : ACalls Tryz.prog 63 [.ptr 0 0] [wC 87 0 1 l, wF 5 l] fun r H' => r = .p (.tuple []) ∧ H' = [.cells [.ptr 0 0, accV 1 l.length] 87, wF 5 l] := by
  cases l with
  | nil => exact cc_fresh _ _
  | cons c t => exact cc_used _ _
theorem w_end (l s : Bs) (hs : 0 < s.length) : [Blk.cells [.ptr 0 0, .row 2 (l.length + s.length)] 87, .dead, .rowF (bV l ++ bV s) 5] = [wC 87 0 2 (l ++ s), .dead, wF 5 (l ++ s)] := by
  have h : 0 < (l ++ s).length := by rw [List.length_append]; omega
  rw [wC_pos h, wF_pos h, bV_append, List.length_append]
theorem wstr_ok (l : Bs) (s : Bs) (hs : 0 < s.length) (hb : (l ++ s).length ≤ 1099511627776) : ACallsW Tryz.prog 87 5 27 [.str (sB s)] l (s) (.tuple [.int .i64 (s.length : Int), .nilIface]) := by
  have hlen : l.length ≤ 1099511627776 := by rw [List.length_append] at hb; omega
  have hlen2 := hb
  rw [List.length_append] at hlen2
  refine ACalls.start (N := 19) Tryz.func27 rfl rfl (Nat.le_of_ble_eq_true rfl) ?_
  refine AWp.seq ?_
  refine AWp.region ?_
  refine AList.c 4 rfl rfl rfl (OpJ.assign rfl rfl) ?_
  refine AList.c 5 rfl rfl rfl (OpJ.assign rfl rfl) ?_
  refine AList.nil ?_
  refine AWp.seq ?_
  refine AWp.region ?_
  refine AList.c 6 rfl rfl rfl (OpJ.move rfl rfl) ?_
  refine AList.callX 7 (cc_ok l) rfl rfl rfl rfl rfl rfl rfl rf63 (fun v H2 hQ2 => ?_)
  obtain ⟨rfl, rfl⟩ := hQ2
  refine AList.nil ?_
  refine AWp.seq ?_
  refine AWp.region ?_
  refine AList.c 8 rfl rfl rfl (OpJ.move rfl rfl) ?_
  refine AList.c 9 rfl rfl rfl (OpJ.move rfl rfl) ?_
  refine AList.c 10 rfl rfl rfl (OpJ.nilCheck rfl rfl) ?_
  refine AList.c 11 rfl rfl rfl (OpJ.fieldAddr rfl rfl fd67_1 rfl) ?_
  refine AList.c 12 rfl rfl rfl (OpJ.load rfl rfl ty65 rfl) ?_
  refine AList.c 13 rfl rfl rfl (OpJ.move rfl rfl) ?_
  refine AList.c 14 rfl rfl rfl (OpJ.appendAccF rfl rfl slz65 rfl (by simp [bV_length]) (ASrc.str rfl st9) hs (bV_one _) by5 (by decide) (by omega)) ?_
  refine AList.c 15 rfl rfl rfl (OpJ.nilCheck rfl rfl) ?_
  refine AList.c 16 rfl rfl rfl (OpJ.fieldAddr rfl rfl fd67_1 rfl) ?_
  refine AList.c0 rfl rfl (OpJ.store rfl rfl rfl rfl rfl ty65 rfl rfl) ?_
  refine AList.nil ?_
  refine AWp.seq ?_
  refine AWp.region ?_
  refine AList.c 17 rfl rfl rfl (OpJ.move rfl rfl) ?_
  refine AList.c 18 rfl rfl rfl (OpJ.lenStr rfl rfl un9) ?_
  refine AList.c 4 rfl rfl rfl (OpJ.assign rfl rfl) ?_
  refine AList.c 5 rfl rfl rfl (OpJ.assign rfl rfl) ?_
  refine AList.nil ?_
  refine AWp.ret ?_
  exact FinO.many (xs := [.int .i64 (s.length : Int), .nilIface]) rfl ⟨_, _, rfl, rfl, ⟨_, _, rfl, rfl, rfl⟩⟩ rfl ⟨rfl, w_end l s hs⟩
theorem wbytes_ok (l : Bs) (s : Bs) (hs : 0 < s.length) (hb : (l ++ s).length ≤ 1099511627776) : ACallsW Tryz.prog 87 5 68 [.is (bP s) s.length] l (s) (.tuple [.int .i64 (s.length : Int), .nilIface]) := by
  have hlen : l.length ≤ 1099511627776 := by rw [List.length_append] at hb; omega
  have hlen2 := hb
  rw [List.length_append] at hlen2
  refine ACalls.start (N := 19) Tryz.func68 rfl rfl (Nat.le_of_ble_eq_true rfl) ?_
  refine AWp.seq ?_
  refine AWp.region ?_
  refine AList.c 4 rfl rfl rfl (OpJ.assign rfl rfl) ?_
  refine AList.c 5 rfl rfl rfl (OpJ.assign rfl rfl) ?_
  refine AList.nil ?_
  refine AWp.seq ?_
  refine AWp.region ?_
  refine AList.c 6 rfl rfl rfl (OpJ.move rfl rfl) ?_
  refine AList.callX 7 (cc_ok l) rfl rfl rfl rfl rfl rfl rfl rf63 (fun v H2 hQ2 => ?_)
  obtain ⟨rfl, rfl⟩ := hQ2
  refine AList.nil ?_
  refine AWp.seq ?_
  refine AWp.region ?_
  refine AList.c 8 rfl rfl rfl (OpJ.move rfl rfl) ?_
  refine AList.c 9 rfl rfl rfl (OpJ.move rfl rfl) ?_
  refine AList.c 10 rfl rfl rfl (OpJ.nilCheck rfl rfl) ?_
  refine AList.c 11 rfl rfl rfl (OpJ.fieldAddr rfl rfl fd67_1 rfl) ?_
  refine AList.c 12 rfl rfl rfl (OpJ.load rfl rfl ty65 rfl) ?_
  refine AList.c 13 rfl rfl rfl (OpJ.move rfl rfl) ?_
  refine AList.c 14 rfl rfl rfl (OpJ.appendAccF rfl rfl slz65 rfl (by simp [bV_length]) (ASrc.of rfl sl65 (asrc_b s)) hs (bV_one _) by5 (by decide) (by omega)) ?_
  refine AList.c 15 rfl rfl rfl (OpJ.nilCheck rfl rfl) ?_
  refine AList.c 16 rfl rfl rfl (OpJ.fieldAddr rfl rfl fd67_1 rfl) ?_
  refine AList.c0 rfl rfl (OpJ.store rfl rfl rfl rfl rfl ty65 rfl rfl) ?_
  refine AList.nil ?_
  refine AWp.seq ?_
  refine AWp.region ?_
  refine AList.c 17 rfl rfl rfl (OpJ.move rfl rfl) ?_
  refine AList.c 18 rfl rfl rfl (OpJ.lenSlice rfl rfl sl65 rfl) ?_
  refine AList.c 4 rfl rfl rfl (OpJ.assign rfl rfl) ?_
  refine AList.c 5 rfl rfl rfl (OpJ.assign rfl rfl) ?_
  refine AList.nil ?_
  refine AWp.ret ?_
  exact FinO.many (xs := [.int .i64 (s.length : Int), .nilIface]) rfl ⟨_, _, rfl, rfl, ⟨_, _, rfl, rfl, rfl⟩⟩ rfl ⟨rfl, w_end l s hs⟩
theorem wbyte_ok (l : Bs) (b : UInt8) (hb : (l ++ [b]).length ≤ 1099511627776) : ACallsW Tryz.prog 87 5 69 [.int .u8 b.toNat] l ([b]) .nilIface := by
  have hlen : l.length ≤ 1099511627776 := by rw [List.length_append] at hb; omega
  have hlen2 := hb
  rw [List.length_append] at hlen2
  refine ACalls.start (N := 17) Tryz.func69 rfl rfl (Nat.le_of_ble_eq_true rfl) ?_
  refine AWp.seq ?_
  refine AWp.region ?_
  refine AList.c 4 rfl rfl rfl (OpJ.assign rfl rfl) ?_
  refine AList.nil ?_
  refine AWp.seq ?_
  refine AWp.region ?_
  refine AList.c 5 rfl rfl rfl (OpJ.move rfl rfl) ?_
  refine AList.callX 6 (cc_ok l) rfl rfl rfl rfl rfl rfl rfl rf63 (fun v H2 hQ2 => ?_)
  obtain ⟨rfl, rfl⟩ := hQ2
  refine AList.nil ?_
  refine AWp.seq ?_
  refine AWp.region ?_
  refine AList.c 7 rfl rfl rfl (OpJ.move rfl rfl) ?_
  refine AList.c 8 rfl rfl rfl (OpJ.move rfl rfl) ?_
  refine AList.c 9 rfl rfl rfl (OpJ.nilCheck rfl rfl) ?_
  refine AList.c 10 rfl rfl rfl (OpJ.fieldAddr rfl rfl fd67_1 rfl) ?_
  refine AList.c 11 rfl rfl rfl (OpJ.load rfl rfl ty65 rfl) ?_
  refine AList.c 12 rfl rfl rfl (OpJ.move rfl rfl) ?_
  refine AList.c 13 rfl rfl rfl (OpJ.buildImm rfl slz65 (by decide) rfl rfl rfl) ?_
  refine AList.c 14 rfl rfl rfl (OpJ.appendAccF rfl rfl slz65 rfl (by simp [bV_length]) (ASrc.of rfl sl65 (asrc_b [b])) (Nat.succ_pos _) (bV_one [b]) by5 (by decide) (by show (2 * (l.length + 1) + 192) * 1 ≤ 281474976710656; omega)) ?_
  refine AList.c 15 rfl rfl rfl (OpJ.nilCheck rfl rfl) ?_
  refine AList.c 16 rfl rfl rfl (OpJ.fieldAddr rfl rfl fd67_1 rfl) ?_
  refine AList.c0 rfl rfl (OpJ.store rfl rfl rfl rfl rfl ty65 rfl rfl) ?_
  refine AList.nil ?_
  refine AWp.seq ?_
  refine AWp.region ?_
  refine AList.c 4 rfl rfl rfl (OpJ.assign rfl rfl) ?_
  refine AList.nil ?_
  refine AWp.ret ?_
  exact FinO.one rfl rfl ⟨rfl, w_end l [b] (by simp)⟩
theorem bstr_nil (a : V) : ACalls Tryz.prog 29 [.ptr 0 0] [.cells [a, .p .nilSlice] 87, .dead] fun r H' => r = .p (.str (sB [])) ∧ H' = [.cells [a, .p .nilSlice] 87, .dead] := by
  refine ACalls.start (N := 14) Tryz.func29 rfl rfl (Nat.le_of_ble_eq_true rfl) ?_
  refine AWp.seq ?_
  refine AWp.region ?_
  refine AList.c 2 rfl rfl rfl (OpJ.assign rfl rfl) ?_
  refine AList.nil ?_
  refine AWp.seq ?_
  refine AWp.regionDraw 12 mixed (by kernel_rfl) (by decide) ?_
  refine AQuiet.cons 3 rfl rfl rfl (OpJ.move rfl rfl) ?_
  refine AQuiet.cons 4 rfl rfl rfl (OpJ.nilCheck rfl rfl) ?_
  refine AQuiet.cons 5 rfl rfl rfl (OpJ.fieldAddr rfl rfl fd67_1 rfl) ?_
  refine AQuiet.cons 6 rfl rfl rfl (OpJ.load rfl rfl ty65 rfl) ?_
  refine AQuiet.cons 7 rfl rfl rfl (OpJ.sliceDataNil rfl rfl) ?_
  refine AQuiet.cons 8 rfl rfl rfl (OpJ.move rfl rfl) ?_
  refine AQuiet.cons 9 rfl rfl rfl (OpJ.nilCheck rfl rfl) ?_
  refine AQuiet.cons 10 rfl rfl rfl (OpJ.fieldAddr rfl rfl fd67_1 rfl) ?_
  refine AQuiet.cons 11 rfl rfl rfl (OpJ.load rfl rfl ty65 rfl) ?_
  refine AQuiet.cons 12 rfl rfl rfl (OpJ.lenSlice rfl rfl sl65 rfl) ?_
  refine AQuiet.cons 13 rfl rfl rfl (OpJ.ustrNil rfl rfl rfl) ?_
  refine AQuiet.cons 2 rfl rfl rfl (OpJ.assign rfl rfl) ?_
  refine AQuiet.nil ?_
  refine AList.nil ?_
  refine AWp.ret ?_
  exact FinO.one rfl rfl ⟨rfl, rfl⟩
theorem bstr_some (a : V) (l : Bs) (hl : 0 < l.length) (hb : l.length ≤ 1099511627776) : ACalls Tryz.prog 29 [.ptr 0 0] [.cells [a, .row 1 l.length] 87, .rowF (bV l) 5] fun r H' => r = .p (.str (sB l)) ∧ H' = [.cells [a, .row 1 l.length] 87, .rowF (bV l) 5] := by
  refine ACalls.start (N := 14) Tryz.func29 rfl rfl (Nat.le_of_ble_eq_true rfl) ?_
  refine AWp.seq ?_
  refine AWp.region ?_
  refine AList.c 2 rfl rfl rfl (OpJ.assign rfl rfl) ?_
  refine AList.nil ?_
  refine AWp.seq ?_
  refine AWp.regionDraw 12 mixed (by kernel_rfl) (by decide) ?_
  refine AQuiet.cons 3 rfl rfl rfl (OpJ.move rfl rfl) ?_
  refine AQuiet.cons 4 rfl rfl rfl (OpJ.nilCheck rfl rfl) ?_
  refine AQuiet.cons 5 rfl rfl rfl (OpJ.fieldAddr rfl rfl fd67_1 rfl) ?_
  refine AQuiet.cons 6 rfl rfl rfl (OpJ.load rfl rfl ty65 rfl) ?_
  refine AQuiet.cons 7 rfl rfl rfl (OpJ.sliceDataRow rfl rfl hl) ?_
  refine AQuiet.cons 8 rfl rfl rfl (OpJ.move rfl rfl) ?_
  refine AQuiet.cons 9 rfl rfl rfl (OpJ.nilCheck rfl rfl) ?_
  refine AQuiet.cons 10 rfl rfl rfl (OpJ.fieldAddr rfl rfl fd67_1 rfl) ?_
  refine AQuiet.cons 11 rfl rfl rfl (OpJ.load rfl rfl ty65 rfl) ?_
  refine AQuiet.cons 12 rfl rfl rfl (OpJ.lenSlice rfl rfl sl65 rfl) ?_
  refine AQuiet.cons 13 rfl rfl rfl (OpJ.ustrRow l rfl rfl rfl ub118_5 rfl hl (by omega)) ?_
  refine AQuiet.cons 2 rfl rfl rfl (OpJ.assign rfl rfl) ?_
  refine AQuiet.nil ?_
  refine AList.nil ?_
  refine AWp.ret ?_
  exact FinO.one rfl rfl ⟨rfl, rfl⟩
theorem bstr_ok (l : Bs) (hb : l.length ≤ 1099511627776) : ACalls Tryz.prog 29 [.ptr 0 0] [wC 87 0 1 l, wF 5 l] fun r H' => r = .p (.str (sB l)) ∧ H' = [wC 87 0 1 l, wF 5 l] := by
  cases l with
  | nil => exact bstr_nil _
  | cons c t => exact bstr_some _ (c :: t) (Nat.succ_pos _) hb
end Go.Proofs.YtambmifhidallaaGreatDoor
end

section
namespace Go.Proofs
open Go.Shelf
def Tryz.laysM171_ren : Go.Shelf.Ren := ⟨fun | 171 => 82 | 243 => 96 | 246 => 102 | 283 => 104 | 284 => 105 | 285 => 106 | 286 => 107 | 129 => 109 | 317 => 108 | 318 => 110 | 319 => 111 | 320 => 112 | 337 => 113 | 338 => 114 | n => n, fun | 3 => 3 | 9 => 9 | 2 => 2 | 4 => 4 | 171 => 162 | 0 => 0 | 53 => 157 | 37 => 65 | 5 => 5 | 173 => 165 | 212 => 168 | 51 => 154 | 20 => 20 | 213 => 169 | 46 => 141 | 232 => 173 | 233 => 174 | n => n, fun | 17 => 3 | 18 => 4 | 19 => 5 | n => n⟩
theorem Tryz.laysM171 : Go.Proofs.LaysM.n171 Tryz.prog Tryz.laysM171_ren := {
  mixed := by kernel_rfl
  f129 := Tryz.func109.trans (congrArg some (by kernel_rfl))
  f171 := Tryz.func82.trans (congrArg some (by kernel_rfl))
  f243 := Tryz.func96.trans (congrArg some (by kernel_rfl))
  f246 := Tryz.func102.trans (congrArg some (by kernel_rfl))
  f283 := Tryz.func104.trans (congrArg some (by kernel_rfl))
  f284 := Tryz.func105.trans (congrArg some (by kernel_rfl))
  f285 := Tryz.func106.trans (congrArg some (by kernel_rfl))
  f286 := Tryz.func107.trans (congrArg some (by kernel_rfl))
  f317 := Tryz.func108.trans (congrArg some (by kernel_rfl))
  f318 := Tryz.func110.trans (congrArg some (by kernel_rfl))
  f319 := Tryz.func111.trans (congrArg some (by kernel_rfl))
  f320 := Tryz.func112.trans (congrArg some (by kernel_rfl))
  f337 := Tryz.func113.trans (congrArg some (by kernel_rfl))
  f338 := Tryz.func114.trans (congrArg some (by kernel_rfl))
  t0 := Tryz.underlying0
  a0 := Tryz.isAgg0
  z0 := Tryz.sizeOf0
  v0 := Tryz.zeroValue0
  t2 := Tryz.underlying2
  a2 := Tryz.isAgg2
  z2 := Tryz.sizeOf2
  v2 := Tryz.zeroValue2
  t3 := Tryz.underlying3
  a3 := Tryz.isAgg3
  z3 := Tryz.sizeOf3
  v3 := Tryz.zeroValue3
  t4 := Tryz.underlying4
  a4 := Tryz.isAgg4
  z4 := Tryz.sizeOf4
  v4 := Tryz.zeroValue4
  t5 := Tryz.underlying5
  a5 := Tryz.isAgg5
  z5 := Tryz.sizeOf5
  v5 := Tryz.zeroValue5
  t9 := Tryz.underlying9
  a9 := Tryz.isAgg9
  z9 := Tryz.sizeOf9
  v9 := Tryz.zeroValue9
  t20 := Tryz.underlying20
  a20 := Tryz.isAgg20
  z20 := Tryz.sizeOf20
  v20 := Tryz.zeroValue20
  t37 := Tryz.underlying65
  a37 := Tryz.isAgg65
  z37 := Tryz.sizeOf65
  v37 := Tryz.zeroValue65
  t46 := Tryz.underlying141
  a46 := Tryz.isAgg141
  z46 := Tryz.sizeOf141
  v46 := Tryz.zeroValue141
  t51 := Tryz.underlying154
  a51 := Tryz.isAgg154
  z51 := Tryz.sizeOf154
  v51 := Tryz.zeroValue154
  t53 := Tryz.underlying157
  a53 := Tryz.isAgg157
  z53 := Tryz.sizeOf157
  v53 := Tryz.zeroValue157
  t171 := Tryz.underlying162
  a171 := Tryz.isAgg162
  z171 := Tryz.sizeOf162
  v171 := Tryz.zeroValue162
  t173 := Tryz.underlying165
  a173 := Tryz.isAgg165
  z173 := Tryz.sizeOf165
  v173 := Tryz.zeroValue165
  t212 := Tryz.underlying168
  a212 := Tryz.isAgg168
  z212 := Tryz.sizeOf168
  v212 := Tryz.zeroValue168
  t213 := Tryz.underlying169
  a213 := Tryz.isAgg169
  z213 := Tryz.sizeOf169
  t232 := Tryz.underlying173
  a232 := Tryz.isAgg173
  z232 := Tryz.sizeOf173
  v232 := Tryz.zeroValue173
  t233 := Tryz.underlying174
  a233 := Tryz.isAgg174
  z233 := Tryz.sizeOf174
  v233 := Tryz.zeroValue174
  g17 := by kernel_rfl
  g18 := by kernel_rfl
  g19 := by kernel_rfl
  i0 := by kernel_rfl
  i2 := by kernel_rfl
  i3 := by kernel_rfl
  i4 := by kernel_rfl
  i5 := by kernel_rfl
  i9 := by kernel_rfl
  i20 := by kernel_rfl
  i37 := by kernel_rfl
  i46 := by kernel_rfl
  i51 := by kernel_rfl
  i53 := by kernel_rfl
  i171 := by kernel_rfl
  i173 := by kernel_rfl
  i212 := by kernel_rfl
  i232 := by kernel_rfl
  i233 := by kernel_rfl
  m17 := by kernel_rfl
  m18 := by kernel_rfl
  m19 := by kernel_rfl }
def Tryz.lays212_ren : Go.Shelf.Ren := ⟨fun | 212 => 86 | 263 => 98 | 264 => 99 | n => n, fun | 46 => 141 | 51 => 154 | 146 => 155 | 53 => 157 | 148 => 158 | n => n, fun | n => n⟩
theorem Tryz.lays212 : Go.Proofs.Lays.n212 Tryz.prog Tryz.lays212_ren := {
  mixed := by kernel_rfl
  f212 := Tryz.func86.trans (congrArg some (by kernel_rfl))
  f263 := Tryz.func98.trans (congrArg some (by kernel_rfl))
  f264 := Tryz.func99.trans (congrArg some (by kernel_rfl))
  t46 := Tryz.underlying141
  a46 := Tryz.isAgg141
  z46 := Tryz.sizeOf141
  v46 := Tryz.zeroValue141
  t51 := Tryz.underlying154
  a51 := Tryz.isAgg154
  z51 := Tryz.sizeOf154
  v51 := Tryz.zeroValue154
  t53 := Tryz.underlying157
  a53 := Tryz.isAgg157
  z53 := Tryz.sizeOf157
  v53 := Tryz.zeroValue157
  t146 := Tryz.underlying155
  a146 := Tryz.isAgg155
  z146 := Tryz.sizeOf155
  v146 := Tryz.zeroValue155
  t148 := Tryz.underlying158
  a148 := Tryz.isAgg158
  z148 := Tryz.sizeOf158
  v148 := Tryz.zeroValue158 }
def Tryz.lays138_ren : Go.Shelf.Ren := ⟨fun | 138 => 11 | 195 => 41 | 218 => 42 | 143 => 26 | 219 => 65 | 217 => 89 | 225 => 90 | 224 => 91 | 267 => 92 | 266 => 100 | 314 => 101 | n => n, fun | 9 => 9 | 3 => 3 | 4 => 4 | 5 => 5 | 0 => 0 | 46 => 141 | 146 => 155 | 51 => 154 | n => n, fun | 1 => 0 | n => n⟩
def Tryz.lays143_ren : Go.Shelf.Ren := ⟨fun | 143 => 26 | 219 => 65 | 217 => 89 | 225 => 90 | 224 => 91 | 267 => 92 | 266 => 100 | 314 => 101 | n => n, fun | 9 => 9 | 3 => 3 | 4 => 4 | 5 => 5 | 46 => 141 | 146 => 155 | 51 => 154 | n => n, fun | 1 => 0 | n => n⟩
def Tryz.lays144_ren : Go.Shelf.Ren := ⟨fun | 144 => 15 | 143 => 26 | 219 => 65 | 217 => 89 | 225 => 90 | 224 => 91 | 267 => 92 | 266 => 100 | 314 => 101 | n => n, fun | 9 => 9 | 4 => 4 | 3 => 3 | 5 => 5 | 46 => 141 | 146 => 155 | 51 => 154 | n => n, fun | 1 => 0 | n => n⟩
def Tryz.lays145_ren : Go.Shelf.Ren := ⟨fun | 145 => 14 | 220 => 45 | 219 => 65 | 217 => 89 | 225 => 90 | 224 => 91 | 267 => 92 | 266 => 100 | 314 => 101 | n => n, fun | 9 => 9 | 4 => 4 | 59 => 47 | 3 => 3 | 5 => 5 | 46 => 141 | 146 => 155 | 51 => 154 | n => n, fun | 1 => 0 | n => n⟩
def Tryz.lays154_ren : Go.Shelf.Ren := ⟨fun | 154 => 7 | 138 => 11 | 165 => 25 | 143 => 26 | 166 => 27 | 197 => 28 | 169 => 29 | 195 => 41 | 218 => 42 | 240 => 63 | 241 => 64 | 219 => 65 | 260 => 66 | 276 => 87 | 277 => 88 | 217 => 89 | 225 => 90 | 224 => 91 | 267 => 92 | 266 => 100 | 314 => 101 | n => n, fun | 9 => 9 | 3 => 3 | 4 => 4 | 72 => 67 | 0 => 0 | 76 => 71 | 105 => 73 | 21 => 21 | 5 => 5 | 70 => 64 | 20 => 20 | 37 => 65 | 75 => 70 | 127 => 118 | 164 => 144 | 46 => 141 | 119 => 148 | 139 => 151 | 138 => 150 | 146 => 155 | 51 => 154 | 80 => 75 | n => n, fun | 1 => 0 | 3 => 1 | 4 => 2 | n => n⟩
theorem Tryz.lays154 : Go.Proofs.Lays.n154 Tryz.prog Tryz.lays154_ren := {
  mixed := by kernel_rfl
  f138 := Tryz.func11.trans (congrArg some (by kernel_rfl))
  f143 := Tryz.func26.trans (congrArg some (by kernel_rfl))
  f154 := Tryz.func7.trans (congrArg some (by kernel_rfl))
  f165 := Tryz.func25.trans (congrArg some (by kernel_rfl))
  f166 := Tryz.func27.trans (congrArg some (by kernel_rfl))
  f169 := Tryz.func29.trans (congrArg some (by kernel_rfl))
  f195 := Tryz.func41.trans (congrArg some (by kernel_rfl))
  f197 := Tryz.func28.trans (congrArg some (by kernel_rfl))
  f217 := Tryz.func89.trans (congrArg some (by kernel_rfl))
  f218 := Tryz.func42.trans (congrArg some (by kernel_rfl))
  f219 := Tryz.func65.trans (congrArg some (by kernel_rfl))
  f224 := Tryz.func91.trans (congrArg some (by kernel_rfl))
  f225 := Tryz.func90.trans (congrArg some (by kernel_rfl))
  f240 := Tryz.func63.trans (congrArg some (by kernel_rfl))
  f241 := Tryz.func64.trans (congrArg some (by kernel_rfl))
  f260 := Tryz.func66.trans (congrArg some (by kernel_rfl))
  f266 := Tryz.func100.trans (congrArg some (by kernel_rfl))
  f267 := Tryz.func92.trans (congrArg some (by kernel_rfl))
  f276 := Tryz.func87.trans (congrArg some (by kernel_rfl))
  f277 := Tryz.func88.trans (congrArg some (by kernel_rfl))
  f314 := Tryz.func101.trans (congrArg some (by kernel_rfl))
  t0 := Tryz.underlying0
  a0 := Tryz.isAgg0
  z0 := Tryz.sizeOf0
  v0 := Tryz.zeroValue0
  t3 := Tryz.underlying3
  a3 := Tryz.isAgg3
  z3 := Tryz.sizeOf3
  v3 := Tryz.zeroValue3
  t4 := Tryz.underlying4
  a4 := Tryz.isAgg4
  z4 := Tryz.sizeOf4
  v4 := Tryz.zeroValue4
  t5 := Tryz.underlying5
  a5 := Tryz.isAgg5
  z5 := Tryz.sizeOf5
  v5 := Tryz.zeroValue5
  t9 := Tryz.underlying9
  a9 := Tryz.isAgg9
  z9 := Tryz.sizeOf9
  v9 := Tryz.zeroValue9
  t20 := Tryz.underlying20
  a20 := Tryz.isAgg20
  z20 := Tryz.sizeOf20
  v20 := Tryz.zeroValue20
  t21 := Tryz.underlying21
  a21 := Tryz.isAgg21
  z21 := Tryz.sizeOf21
  v21 := Tryz.zeroValue21
  t37 := Tryz.underlying65
  a37 := Tryz.isAgg65
  z37 := Tryz.sizeOf65
  v37 := Tryz.zeroValue65
  t46 := Tryz.underlying141
  a46 := Tryz.isAgg141
  z46 := Tryz.sizeOf141
  v46 := Tryz.zeroValue141
  t51 := Tryz.underlying154
  a51 := Tryz.isAgg154
  z51 := Tryz.sizeOf154
  v51 := Tryz.zeroValue154
  t70 := Tryz.underlying64
  a70 := Tryz.isAgg64
  z70 := Tryz.sizeOf64
  v70 := Tryz.zeroValue64
  t72 := Tryz.underlying67
  a72 := Tryz.isAgg67
  z72 := Tryz.sizeOf67
  v72 := Tryz.zeroValue67
  t75 := Tryz.underlying70
  a75 := Tryz.isAgg70
  z75 := Tryz.sizeOf70
  v75 := Tryz.zeroValue70
  t76 := Tryz.underlying71
  a76 := Tryz.isAgg71
  z76 := Tryz.sizeOf71
  v76 := Tryz.zeroValue71
  t105 := Tryz.underlying73
  a105 := Tryz.isAgg73
  z105 := Tryz.sizeOf73
  v105 := Tryz.zeroValue73
  t119 := Tryz.underlying148
  a119 := Tryz.isAgg148
  z119 := Tryz.sizeOf148
  t127 := Tryz.underlying118
  a127 := Tryz.isAgg118
  z127 := Tryz.sizeOf118
  v127 := Tryz.zeroValue118
  t138 := Tryz.underlying150
  a138 := Tryz.isAgg150
  z138 := Tryz.sizeOf150
  v138 := Tryz.zeroValue150
  t139 := Tryz.underlying151
  a139 := Tryz.isAgg151
  z139 := Tryz.sizeOf151
  v139 := Tryz.zeroValue151
  t146 := Tryz.underlying155
  a146 := Tryz.isAgg155
  z146 := Tryz.sizeOf155
  v146 := Tryz.zeroValue155
  t164 := Tryz.underlying144
  a164 := Tryz.isAgg144
  z164 := Tryz.sizeOf144
  v164 := Tryz.zeroValue144
  g1 := by kernel_rfl
  g3 := by kernel_rfl
  g4 := by kernel_rfl }
def Tryz.lays221_ren : Go.Shelf.Ren := ⟨fun | 221 => 44 | 268 => 84 | 138 => 11 | 143 => 26 | 195 => 41 | 197 => 28 | 218 => 42 | 219 => 65 | 260 => 66 | 217 => 89 | 225 => 90 | 224 => 91 | 267 => 92 | 266 => 100 | 314 => 101 | n => n, fun | 9 => 9 | 3 => 3 | 31 => 22 | 4 => 4 | 0 => 0 | 105 => 73 | 21 => 21 | 5 => 5 | 46 => 141 | 119 => 148 | 139 => 151 | 138 => 150 | 146 => 155 | 51 => 154 | n => n, fun | 1 => 0 | 3 => 1 | 4 => 2 | n => n⟩
end Go.Proofs
end

section
set_option linter.unusedVariables false
set_option maxRecDepth 100000
set_option maxHeartbeats 4000000
set_option linter.unusedSimpArgs false
namespace Go.Proofs.YtambmifhidallaaGreatDoor
open Go.AF
open Go.Proofs
theorem pow_laid : (3, Lib.pow10Tab.map (PV.int .u64)) ∈ laidG Tryz.prog := by
  have e : (laidG Tryz.prog)[2]? = some (3, Lib.pow10Tab.map (PV.int .u64)) := by kernel_rfl
  exact List.mem_of_getElem? e
theorem itoa_ok (n : Int) (h0 : 0 ≤ n) (h1 : n ≤ 1099511627776) : Pure Tryz.prog 82 [.int .i64 n] (.str (sB (Lib.itoa n))) :=
  Pure.ofGrow (us := [.int .i64 n]) (fun w I vs h => by
    obtain ⟨u, us, rfl, h2, h3⟩ := h
    have h2 : u = .int .i64 n := h2
    have h3 : us = [] := h3
    rw [h2, h3]) fun w I hg => (Any.strconv_Itoa Tryz.laysM171 n (by omega) (by omega) w (tab_of (g := 3) hg pow_laid (by kernel_rfl))).mono fun e w' ⟨h1, k, os, h2⟩ => ⟨_, h1, fun _ _ => rfl, k, os, h2⟩
end Go.Proofs.YtambmifhidallaaGreatDoor
end

section
set_option linter.unusedVariables false
set_option maxRecDepth 100000
set_option maxHeartbeats 4000000
set_option linter.unusedSimpArgs false
namespace Go.Proofs.YtambmifhidallaaGreatDoor
open Go.AF
def Prt.v : Prt → PV
  | .tx l => .iface 9 (.str (sB l))
  | .nu i => .iface 3 (.int .i64 i)
  | .sp s => .iface 38 (.agg s.cells)
def Prt.v1 (p : Prt) : List PV := [p.v]
def prtsV (l : List Prt) : PV := .is (l.flatMap Prt.v1) l.length
theorem ta_s (p : Prt) : taRel Tryz.prog 9 p.v (.tuple [.str (sB p.gS), .bool p.isS]) := by
  cases p with
  | tx l => exact ⟨_, _, rfl, .inl ⟨rfl, rfl⟩⟩
  | nu i => exact ⟨_, _, rfl, .inr ⟨rfl, _, zr9, rfl⟩⟩
  | sp s => exact ⟨_, _, rfl, .inr ⟨rfl, _, zr9, rfl⟩⟩
theorem ta_n (p : Prt) : taRel Tryz.prog 3 p.v (.tuple [.int .i64 p.gN, .bool p.isN]) := by
  cases p with
  | tx l => exact ⟨_, _, rfl, .inr ⟨rfl, _, zr3, rfl⟩⟩
  | nu i => exact ⟨_, _, rfl, .inl ⟨rfl, rfl⟩⟩
  | sp s => exact ⟨_, _, rfl, .inr ⟨rfl, _, zr3, rfl⟩⟩
theorem ta_p (p : Prt) : taRel Tryz.prog 38 p.v (.tuple [.agg p.gP.cells, .bool p.isP]) := by
  cases p with
  | tx l => exact ⟨_, _, rfl, .inr ⟨rfl, _, zr38, rfl⟩⟩
  | nu i => exact ⟨_, _, rfl, .inr ⟨rfl, _, zr38, rfl⟩⟩
  | sp s => exact ⟨_, _, rfl, .inl ⟨rfl, rfl⟩⟩
theorem put0_ok (l : Bs) (ps : List Prt) (hok : ∀ p ∈ ps, p.ok) (hns : ∀ p ∈ ps, p.isP = false) (hn : ps.length ≤ 1000) (hb : (l ++ prtsT ps).length ≤ 1099511627776) : ACallsW Tryz.prog 87 5 40 [prtsV ps] l ((prtsT ps)) (.tuple []) := by
  refine ACalls.start (N := 55) Tryz.func40 rfl rfl (Nat.le_of_ble_eq_true rfl) ?_
  refine AWp.seq ?_
  refine AWp.to (To.mvW 0 1 (by decide) rfl rfl) ?_
  show AWp _ _ _ _ _ _ _ [(wC 87 0 2 (l)), .dead, (wF 5 (l))]
  refine AWp.region ?_
  refine AList.c 9 rfl rfl rfl (OpJ.move rfl rfl) ?_
  refine AList.c 10 rfl rfl rfl (OpJ.lenSlice rfl rfl sl134 rfl) ?_
  refine AList.c 11 rfl rfl rfl (OpJ.move rfl rfl) ?_
  refine AList.nil ?_
  refine AWp.block ?_
  refine AWp.loopHL [0, 9, 10] (fun g => [(11, .p (.int .i64 ((g : Nat) : Int)))]) (fun g => [(wC 87 0 2 (l ++ prtsT (ps.take g))), .dead, (wF 5 (l ++ prtsT (ps.take g)))]) (fun g => g ≤ ps.length) (fun g => ps.length - g) 0 (Nat.zero_le _) (To.eqH (To.sub (Sub.chk (Sub.cons rfl Sub.nil))) (by show [(wC 87 0 2 (l)), .dead, (wF 5 (l))] = [(wC 87 0 2 (l ++ prtsT (ps.take 0))), .dead, (wF 5 (l ++ prtsT (ps.take 0)))]; rw [put_zero])) (fun i hg => ?_)
  refine AWp.seq ?_
  refine AWp.region ?_
  refine AList.c 12 rfl rfl rfl (OpJ.lss rfl rfl rfl) ?_
  refine AList.nil ?_
  refine AWp.seq ?_
  refine AWp.cond _ rfl (fun hc0 => ?_) (fun hc0 => ?_)
  · skip
    have hk0 : i < ps.length := by have h := of_decide_eq_true hc0; omega
    have hm : (gt Prt.d ps i) ∈ ps := gt_mem _ hk0
    have hst := put_step l ps i hk0
    have hbi := put_len l ps (i + 1) hb
    refine AWp.skip ?_
    refine AWp.seq ?_
    refine AWp.block ?_
    refine AWp.seq ?_
    refine AWp.region ?_
    refine AList.c 13 rfl rfl rfl (OpJ.indexG (g := gt Prt.d ps) (gt_get _) rfl rfl rfl sl134 el134 rfl (fun _ => rfl) (by decide) hk0) ?_
    refine AList.c 14 rfl rfl rfl (OpJ.load (v := .p (gt Prt.d ps i).v) rfl rfl ty20 rfl) ?_
    refine AList.c 5 rfl rfl rfl (OpJ.assign rfl rfl) ?_
    refine AList.nil ?_
    refine AWp.seq ?_
    refine AWp.region ?_
    refine AList.c 15 rfl rfl rfl (OpJ.move rfl rfl) ?_
    refine AList.nil ?_
    refine AWp.block ?_
    refine AWp.seq ?_
    refine AWp.region ?_
    refine AList.c 16 rfl rfl rfl (OpJ.taG rfl rfl con9 (ta_s _)) ?_
    refine AList.c 17 rfl rfl rfl (OpJ.extract rfl rfl rfl) ?_
    refine AList.c 18 rfl rfl rfl (OpJ.extract rfl rfl rfl) ?_
    refine AList.nil ?_
    refine AWp.cond _ rfl (fun hc1 => ?_) (fun hc1 => ?_)
    · skip
      refine AWp.seq ?_
      refine AWp.region ?_
      refine AList.c 6 rfl rfl rfl (OpJ.assign rfl rfl) ?_
      refine AList.nil ?_
      refine AWp.region ?_
      refine AList.c 19 rfl rfl rfl (OpJ.move rfl rfl) ?_
      refine AList.c 20 rfl rfl rfl (OpJ.nilCheck rfl rfl) ?_
      refine AList.c 21 rfl rfl rfl (OpJ.fieldAddr rfl rfl fd87_0 rfl) ?_
      refine AList.c 22 rfl rfl rfl (OpJ.move rfl rfl) ?_
      refine AList.callW 23 0 2 (wstr_ok _ _ (ok_s hc1 (hok _ hm)) (by rw [← t_s hc1, hst]; exact hbi)) (by decide) rfl rfl rfl rfl rfl rfl rfl rfl rfl rf27 ?_
      refine AList.nil ?_
      refine AWp.region ?_
      refine AList.c 54 rfl rfl rfl (OpJ.add rfl rfl rfl (i64ok ?_)) ?_
      · omega
      refine AList.c 11 rfl rfl rfl (OpJ.move rfl rfl) ?_
      refine AList.nil ?_
      refine ⟨i + 1, ?_, ?_, ?_⟩
      · exact hk0
      · omega
      exact To.done [0, 1, 3] rfl (by repeat (first | exact Sub.nil | refine Sub.cons rfl ?_)) (by show [renB _ (wC 87 0 3 _), renB _ .dead, renB _ (wF 5 _)] = [(wC 87 0 2 (l ++ prtsT (ps.take (i + 1)))), .dead, (wF 5 (l ++ prtsT (ps.take (i + 1))))]; rw [wC_ren (σ := pl [0, 1, 3]) (i := 0) (j := 3) (i' := 0) (j' := 2) rfl rfl, wF_ren, ← hst, t_s hc1]; rfl)
    · skip
      refine AWp.seq ?_
      refine AWp.region ?_
      refine AList.c 24 rfl rfl rfl (OpJ.taG rfl rfl con3 (ta_n _)) ?_
      refine AList.c 25 rfl rfl rfl (OpJ.extract rfl rfl rfl) ?_
      refine AList.c 26 rfl rfl rfl (OpJ.extract rfl rfl rfl) ?_
      refine AList.nil ?_
      refine AWp.cond _ rfl (fun hc2 => ?_) (fun hc2 => ?_)
      · skip
        refine AWp.seq ?_
        refine AWp.region ?_
        refine AList.c 7 rfl rfl rfl (OpJ.assign rfl rfl) ?_
        refine AList.nil ?_
        refine AWp.regionDraw 5 mixed (by kernel_rfl) (by decide) ?_
        refine AQuiet.cons 27 rfl rfl rfl (OpJ.move rfl rfl) ?_
        refine AQuiet.cons 28 rfl rfl rfl (OpJ.nilCheck rfl rfl) ?_
        refine AQuiet.cons 29 rfl rfl rfl (OpJ.fieldAddr rfl rfl fd87_0 rfl) ?_
        refine AQuiet.cons 30 rfl rfl rfl (OpJ.move rfl rfl) ?_
        refine AQuiet.cons 31 rfl rfl rfl (OpJ.callP (itoa_ok _ ?_ ?_) rfl rfl rfl rfl rf82) ?_
        · exact (ok_n hc2 (hok _ hm)).1
        · exact (ok_n hc2 (hok _ hm)).2
        refine AQuiet.nil ?_
        refine AList.callW 32 0 2 (wstr_ok _ _ (itoa_pos _) (by rw [← t_n hc2, hst]; exact hbi)) (by decide) rfl rfl rfl rfl rfl rfl rfl rfl rfl rf27 ?_
        refine AList.nil ?_
        refine AWp.region ?_
        refine AList.c 54 rfl rfl rfl (OpJ.add rfl rfl rfl (i64ok ?_)) ?_
        · omega
        refine AList.c 11 rfl rfl rfl (OpJ.move rfl rfl) ?_
        refine AList.nil ?_
        refine ⟨i + 1, ?_, ?_, ?_⟩
        · exact hk0
        · omega
        exact To.done [0, 1, 3] rfl (by repeat (first | exact Sub.nil | refine Sub.cons rfl ?_)) (by show [renB _ (wC 87 0 3 _), renB _ .dead, renB _ (wF 5 _)] = [(wC 87 0 2 (l ++ prtsT (ps.take (i + 1)))), .dead, (wF 5 (l ++ prtsT (ps.take (i + 1))))]; rw [wC_ren (σ := pl [0, 1, 3]) (i := 0) (j := 3) (i' := 0) (j' := 2) rfl rfl, wF_ren, ← hst, t_n hc2]; rfl)
      · skip
        refine AWp.seq ?_
        refine AWp.region ?_
        refine AList.c 33 rfl rfl rfl (OpJ.taG rfl rfl con38 (ta_p _)) ?_
        refine AList.c 34 rfl rfl rfl (OpJ.extract rfl rfl rfl) ?_
        refine AList.c 35 rfl rfl rfl (OpJ.extract rfl rfl rfl) ?_
        refine AList.nil ?_
        refine AWp.cond _ rfl (fun hc3 => ?_) (fun hc3 => ?_)
        · skip
          exfalso
          rw [hns _ hm] at hc3
          cases hc3
        · skip
          exfalso
          exact no_other _ hc1 hc2 hc3
  · skip
    refine AWp.exit ?_
    have hi : i = ps.length := by have h := of_decide_eq_false hc0; omega
    subst hi
    refine ⟨.inl rfl, _, resV.none_ rfl, rfl, ?_⟩
    rw [List.take_length]
theorem put_ok (l : Bs) (ps : List Prt) (hok : ∀ p ∈ ps, p.ok)  (hn : ps.length ≤ 1000) (hb : (l ++ prtsT ps).length ≤ 1099511627776) : ACallsW Tryz.prog 87 5 40 [prtsV ps] l ((prtsT ps)) (.tuple []) := by
  refine ACalls.start (N := 55) Tryz.func40 rfl rfl (Nat.le_of_ble_eq_true rfl) ?_
  refine AWp.seq ?_
  refine AWp.to (To.mvW 0 1 (by decide) rfl rfl) ?_
  show AWp _ _ _ _ _ _ _ [(wC 87 0 2 (l)), .dead, (wF 5 (l))]
  refine AWp.region ?_
  refine AList.c 9 rfl rfl rfl (OpJ.move rfl rfl) ?_
  refine AList.c 10 rfl rfl rfl (OpJ.lenSlice rfl rfl sl134 rfl) ?_
  refine AList.c 11 rfl rfl rfl (OpJ.move rfl rfl) ?_
  refine AList.nil ?_
  refine AWp.block ?_
  refine AWp.loopHL [0, 9, 10] (fun g => [(11, .p (.int .i64 ((g : Nat) : Int)))]) (fun g => [(wC 87 0 2 (l ++ prtsT (ps.take g))), .dead, (wF 5 (l ++ prtsT (ps.take g)))]) (fun g => g ≤ ps.length) (fun g => ps.length - g) 0 (Nat.zero_le _) (To.eqH (To.sub (Sub.chk (Sub.cons rfl Sub.nil))) (by show [(wC 87 0 2 (l)), .dead, (wF 5 (l))] = [(wC 87 0 2 (l ++ prtsT (ps.take 0))), .dead, (wF 5 (l ++ prtsT (ps.take 0)))]; rw [put_zero])) (fun i hg => ?_)
  refine AWp.seq ?_
  refine AWp.region ?_
  refine AList.c 12 rfl rfl rfl (OpJ.lss rfl rfl rfl) ?_
  refine AList.nil ?_
  refine AWp.seq ?_
  refine AWp.cond _ rfl (fun hc0 => ?_) (fun hc0 => ?_)
  · skip
    have hk0 : i < ps.length := by have h := of_decide_eq_true hc0; omega
    have hm : (gt Prt.d ps i) ∈ ps := gt_mem _ hk0
    have hst := put_step l ps i hk0
    have hbi := put_len l ps (i + 1) hb
    refine AWp.skip ?_
    refine AWp.seq ?_
    refine AWp.block ?_
    refine AWp.seq ?_
    refine AWp.region ?_
    refine AList.c 13 rfl rfl rfl (OpJ.indexG (g := gt Prt.d ps) (gt_get _) rfl rfl rfl sl134 el134 rfl (fun _ => rfl) (by decide) hk0) ?_
    refine AList.c 14 rfl rfl rfl (OpJ.load (v := .p (gt Prt.d ps i).v) rfl rfl ty20 rfl) ?_
    refine AList.c 5 rfl rfl rfl (OpJ.assign rfl rfl) ?_
    refine AList.nil ?_
    refine AWp.seq ?_
    refine AWp.region ?_
    refine AList.c 15 rfl rfl rfl (OpJ.move rfl rfl) ?_
    refine AList.nil ?_
    refine AWp.block ?_
    refine AWp.seq ?_
    refine AWp.region ?_
    refine AList.c 16 rfl rfl rfl (OpJ.taG rfl rfl con9 (ta_s _)) ?_
    refine AList.c 17 rfl rfl rfl (OpJ.extract rfl rfl rfl) ?_
    refine AList.c 18 rfl rfl rfl (OpJ.extract rfl rfl rfl) ?_
    refine AList.nil ?_
    refine AWp.cond _ rfl (fun hc1 => ?_) (fun hc1 => ?_)
    · skip
      refine AWp.seq ?_
      refine AWp.region ?_
      refine AList.c 6 rfl rfl rfl (OpJ.assign rfl rfl) ?_
      refine AList.nil ?_
      refine AWp.region ?_
      refine AList.c 19 rfl rfl rfl (OpJ.move rfl rfl) ?_
      refine AList.c 20 rfl rfl rfl (OpJ.nilCheck rfl rfl) ?_
      refine AList.c 21 rfl rfl rfl (OpJ.fieldAddr rfl rfl fd87_0 rfl) ?_
      refine AList.c 22 rfl rfl rfl (OpJ.move rfl rfl) ?_
      refine AList.callW 23 0 2 (wstr_ok _ _ (ok_s hc1 (hok _ hm)) (by rw [← t_s hc1, hst]; exact hbi)) (by decide) rfl rfl rfl rfl rfl rfl rfl rfl rfl rf27 ?_
      refine AList.nil ?_
      refine AWp.region ?_
      refine AList.c 54 rfl rfl rfl (OpJ.add rfl rfl rfl (i64ok ?_)) ?_
      · omega
      refine AList.c 11 rfl rfl rfl (OpJ.move rfl rfl) ?_
      refine AList.nil ?_
      refine ⟨i + 1, ?_, ?_, ?_⟩
      · exact hk0
      · omega
      exact To.done [0, 1, 3] rfl (by repeat (first | exact Sub.nil | refine Sub.cons rfl ?_)) (by show [renB _ (wC 87 0 3 _), renB _ .dead, renB _ (wF 5 _)] = [(wC 87 0 2 (l ++ prtsT (ps.take (i + 1)))), .dead, (wF 5 (l ++ prtsT (ps.take (i + 1))))]; rw [wC_ren (σ := pl [0, 1, 3]) (i := 0) (j := 3) (i' := 0) (j' := 2) rfl rfl, wF_ren, ← hst, t_s hc1]; rfl)
    · skip
      refine AWp.seq ?_
      refine AWp.region ?_
      refine AList.c 24 rfl rfl rfl (OpJ.taG rfl rfl con3 (ta_n _)) ?_
      refine AList.c 25 rfl rfl rfl (OpJ.extract rfl rfl rfl) ?_
      refine AList.c 26 rfl rfl rfl (OpJ.extract rfl rfl rfl) ?_
      refine AList.nil ?_
      refine AWp.cond _ rfl (fun hc2 => ?_) (fun hc2 => ?_)
      · skip
        refine AWp.seq ?_
        refine AWp.region ?_
        refine AList.c 7 rfl rfl rfl (OpJ.assign rfl rfl) ?_
        refine AList.nil ?_
        refine AWp.regionDraw 5 mixed (by kernel_rfl) (by decide) ?_
        refine AQuiet.cons 27 rfl rfl rfl (OpJ.move rfl rfl) ?_
        refine AQuiet.cons 28 rfl rfl rfl (OpJ.nilCheck rfl rfl) ?_
        refine AQuiet.cons 29 rfl rfl rfl (OpJ.fieldAddr rfl rfl fd87_0 rfl) ?_
        refine AQuiet.cons 30 rfl rfl rfl (OpJ.move rfl rfl) ?_
        refine AQuiet.cons 31 rfl rfl rfl (OpJ.callP (itoa_ok _ ?_ ?_) rfl rfl rfl rfl rf82) ?_
        · exact (ok_n hc2 (hok _ hm)).1
        · exact (ok_n hc2 (hok _ hm)).2
        refine AQuiet.nil ?_
        refine AList.callW 32 0 2 (wstr_ok _ _ (itoa_pos _) (by rw [← t_n hc2, hst]; exact hbi)) (by decide) rfl rfl rfl rfl rfl rfl rfl rfl rfl rf27 ?_
        refine AList.nil ?_
        refine AWp.region ?_
        refine AList.c 54 rfl rfl rfl (OpJ.add rfl rfl rfl (i64ok ?_)) ?_
        · omega
        refine AList.c 11 rfl rfl rfl (OpJ.move rfl rfl) ?_
        refine AList.nil ?_
        refine ⟨i + 1, ?_, ?_, ?_⟩
        · exact hk0
        · omega
        exact To.done [0, 1, 3] rfl (by repeat (first | exact Sub.nil | refine Sub.cons rfl ?_)) (by show [renB _ (wC 87 0 3 _), renB _ .dead, renB _ (wF 5 _)] = [(wC 87 0 2 (l ++ prtsT (ps.take (i + 1)))), .dead, (wF 5 (l ++ prtsT (ps.take (i + 1))))]; rw [wC_ren (σ := pl [0, 1, 3]) (i := 0) (j := 3) (i' := 0) (j' := 2) rfl rfl, wF_ren, ← hst, t_n hc2]; rfl)
      · skip
        refine AWp.seq ?_
        refine AWp.region ?_
        refine AList.c 33 rfl rfl rfl (OpJ.taG rfl rfl con38 (ta_p _)) ?_
        refine AList.c 34 rfl rfl rfl (OpJ.extract rfl rfl rfl) ?_
        refine AList.c 35 rfl rfl rfl (OpJ.extract rfl rfl rfl) ?_
        refine AList.nil ?_
        refine AWp.cond _ rfl (fun hc3 => ?_) (fun hc3 => ?_)
        · skip
          have et := t_p hc3
          have hop : 0 ≤ (gt Prt.d ps i).gP.lo ∧ (gt Prt.d ps i).gP.lo ≤ 1099511627776 ∧ 0 ≤ (gt Prt.d ps i).gP.hi ∧ (gt Prt.d ps i).gP.hi ≤ 1099511627776 := ok_p hc3 (hok _ hm)
          refine AWp.seq ?_
          refine AWp.region ?_
          refine AList.c 8 rfl rfl rfl (OpJ.allocOwn rfl zr38 rfl) ?_
          refine AList.c0 rfl rfl (OpJ.store rfl rfl rfl rfl rfl ty38 rfl rfl) ?_
          refine AList.nil ?_
          refine AWp.seq ?_
          refine AWp.region ?_
          refine AList.c 36 rfl rfl rfl (OpJ.move rfl rfl) ?_
          refine AList.c 37 rfl rfl rfl (OpJ.fieldAddr rfl rfl fd38_0 rfl) ?_
          refine AList.c 38 rfl rfl rfl (OpJ.load (v := .p (.int .i64 (gt Prt.d ps i).gP.lo)) rfl rfl ty3 rfl) ?_
          refine AList.c 39 rfl rfl rfl (OpJ.makeIface rfl rfl con3) ?_
          refine AList.c 40 rfl rfl rfl (OpJ.buildImm rfl slz134 (by decide) rfl rfl rfl) ?_
          refine AList.callW 41 0 2 (put0_ok _ [.nu (gt Prt.d ps i).gP.lo] (by intro q hq; rcases List.mem_singleton.1 hq with rfl; exact ⟨hop.1, hop.2.1⟩) (by intro q hq; rcases List.mem_singleton.1 hq with rfl; rfl) (by show 1 ≤ 1000; decide) (by rw [prts_one]; exact put_b1 et hst hbi)) (by decide) rfl rfl rfl rfl rfl rfl rfl rfl rfl rf40 ?_
          refine AList.nil ?_
          refine AWp.seq ?_
          refine AWp.region ?_
          refine AList.c 42 rfl rfl rfl (OpJ.fieldAddr rfl rfl fd38_1 rfl) ?_
          refine AList.c 43 rfl rfl rfl (OpJ.load (v := .p (.int .i64 (gt Prt.d ps i).gP.hi)) rfl rfl ty3 rfl) ?_
          refine AList.c 44 rfl rfl rfl (OpJ.fieldAddr rfl rfl fd38_0 rfl) ?_
          refine AList.c 45 rfl rfl rfl (OpJ.load (v := .p (.int .i64 (gt Prt.d ps i).gP.lo)) rfl rfl ty3 rfl) ?_
          refine AList.c 46 rfl rfl rfl (OpJ.neq rfl rfl rfl) ?_
          refine AList.nil ?_
          refine AWp.cond _ rfl (fun hc4 => ?_) (fun hc4 => ?_)
          · skip
            refine AWp.region ?_
            refine AList.c 47 rfl rfl rfl (OpJ.move rfl rfl) ?_
            refine AList.c 48 rfl rfl rfl (OpJ.makeIface rfl rfl con9) ?_
            refine AList.c 49 rfl rfl rfl (OpJ.fieldAddr rfl rfl fd38_1 rfl) ?_
            refine AList.c 50 rfl rfl rfl (OpJ.load (v := .p (.int .i64 (gt Prt.d ps i).gP.hi)) rfl rfl ty3 rfl) ?_
            refine AList.c 51 rfl rfl rfl (OpJ.makeIface rfl rfl con3) ?_
            refine AList.c 52 rfl rfl rfl (OpJ.buildImm rfl slz134 (by decide) rfl rfl rfl) ?_
            refine AList.callW 53 0 4 (put0_ok _ [.tx [46, 46], .nu (gt Prt.d ps i).gP.hi] (by intro q hq; simp only [List.mem_cons, List.not_mem_nil, or_false] at hq; rcases hq with rfl | rfl; exact Nat.succ_pos _; exact ⟨hop.2.2.1, hop.2.2.2⟩) (by intro q hq; simp only [List.mem_cons, List.not_mem_nil, or_false] at hq; rcases hq with rfl | rfl <;> rfl) (by show 2 ≤ 1000; decide) (by rw [prts_one, prts_dots, put_b2 et (by simpa using hc4) hst]; exact hbi)) (by decide) rfl rfl rfl rfl rfl rfl rfl rfl rfl rf40 ?_
            refine AList.nil ?_
            refine AWp.region ?_
            refine AList.c 54 rfl rfl rfl (OpJ.add rfl rfl rfl (i64ok ?_)) ?_
            · omega
            refine AList.c 11 rfl rfl rfl (OpJ.move rfl rfl) ?_
            refine AList.nil ?_
            refine ⟨i + 1, ?_, ?_, ?_⟩
            · exact hk0
            · omega
            exact To.done [0, 1, 5] rfl (by repeat (first | exact Sub.nil | refine Sub.cons rfl ?_)) (by show [renB _ (wC 87 0 5 _), renB _ .dead, renB _ (wF 5 _)] = [(wC 87 0 2 (l ++ prtsT (ps.take (i + 1)))), .dead, (wF 5 (l ++ prtsT (ps.take (i + 1))))]; rw [wC_ren (σ := pl [0, 1, 5]) (i := 0) (j := 5) (i' := 0) (j' := 2) rfl rfl, wF_ren, prts_one, prts_dots, put_b2 et (by simpa using hc4) hst]; rfl)
          · skip
            refine AWp.skip ?_
            refine AWp.region ?_
            refine AList.c 54 rfl rfl rfl (OpJ.add rfl rfl rfl (i64ok ?_)) ?_
            · omega
            refine AList.c 11 rfl rfl rfl (OpJ.move rfl rfl) ?_
            refine AList.nil ?_
            refine ⟨i + 1, ?_, ?_, ?_⟩
            · exact hk0
            · omega
            exact To.done [0, 1, 4] rfl (by repeat (first | exact Sub.nil | refine Sub.cons rfl ?_)) (by show [renB _ (wC 87 0 4 _), renB _ .dead, renB _ (wF 5 _)] = [(wC 87 0 2 (l ++ prtsT (ps.take (i + 1)))), .dead, (wF 5 (l ++ prtsT (ps.take (i + 1))))]; rw [wC_ren (σ := pl [0, 1, 4]) (i := 0) (j := 4) (i' := 0) (j' := 2) rfl rfl, wF_ren, prts_one, put_b3 et (by simpa using hc4) hst]; rfl)
        · skip
          exfalso
          exact no_other _ hc1 hc2 hc3
  · skip
    refine AWp.exit ?_
    have hi : i = ps.length := by have h := of_decide_eq_false hc0; omega
    subst hi
    refine ⟨.inl rfl, _, resV.none_ rfl, rfl, ?_⟩
    rw [List.take_length]
end Go.Proofs.YtambmifhidallaaGreatDoor
end

section
set_option linter.unusedVariables false
set_option maxRecDepth 100000
set_option maxHeartbeats 4000000
set_option linter.unusedSimpArgs false
namespace Go.Proofs.YtambmifhidallaaGreatDoor
open Go.AF
theorem within_ok (n lo hi : Int) : Pure Tryz.prog 55 [.int .i64 n, .int .i64 lo, .int .i64 hi] (.bool (inB n lo hi)) := by
  refine Pure.start (N := 15) Tryz.func55 rfl rfl (Nat.le_of_ble_eq_true rfl) ?_
  refine AWp.seq ?_
  refine AWp.region ?_
  refine AList.c 6 rfl rfl rfl (OpJ.assign rfl rfl) ?_
  refine AList.nil ?_
  refine AWp.seq ?_
  refine AWp.region ?_
  refine AList.c 7 rfl rfl rfl (OpJ.move rfl rfl) ?_
  refine AList.c 8 rfl rfl rfl (OpJ.move rfl rfl) ?_
  refine AList.c 9 rfl rfl rfl (OpJ.leq rfl rfl rfl) ?_
  refine AList.c 10 rfl rfl rfl (OpJ.move rfl rfl) ?_
  refine AList.g 11 10 rfl rfl rfl rfl rfl rfl rfl [(0, _)] (fun h => And.intro (.inl rfl) (trivial)) (fun h => (OpJ.move rfl rfl)) ?_
  refine AList.g 12 10 rfl rfl rfl rfl rfl rfl rfl [(2, _)] (fun h => And.intro (.inl rfl) (trivial)) (fun h => (OpJ.move rfl rfl)) ?_
  refine AList.g 13 10 rfl rfl rfl rfl rfl rfl rfl [(11, _), (12, _)] (fun h => And.intro (.inr ⟨_, rfl, h⟩) (And.intro (.inr ⟨_, rfl, h⟩) (trivial))) (fun h => (OpJ.leq rfl rfl rfl)) ?_
  refine AList.c 14 rfl rfl rfl (OpJ.and_ rfl rfl rfl ?_) ?_
  · first | (intro h; rw [h]; rfl) | (intro h; simp_all)
  refine AList.c 6 rfl rfl rfl (OpJ.assign rfl rfl) ?_
  refine AList.nil ?_
  refine AWp.ret ?_
  exact Fin.one rfl (rfl)
theorem isSpan_ok (s : Spn) (lo hi : Int) : Pure Tryz.prog 77 [.agg s.cells, .int .i64 lo, .int .i64 hi] (.bool (spnB s lo hi)) := by
  refine Pure.start (N := 24) Tryz.func77 rfl rfl (Nat.le_of_ble_eq_true rfl) ?_
  refine AWp.seq ?_
  refine AWp.region ?_
  refine AList.c 3 rfl rfl rfl (OpJ.boxImm rfl rfl rfl) ?_
  refine AList.c 6 rfl rfl rfl (OpJ.assign rfl rfl) ?_
  refine AList.nil ?_
  refine AWp.seq ?_
  refine AWp.region ?_
  refine AList.c 7 rfl rfl rfl (OpJ.move rfl rfl) ?_
  refine AList.c 8 rfl rfl rfl (OpJ.fieldAddr rfl rfl fd38_0 rfl) ?_
  refine AList.c 9 rfl rfl rfl (OpJ.load (v := .p (.int .i64 s.lo)) rfl rfl ty3 rfl) ?_
  refine AList.c 10 rfl rfl rfl (OpJ.leq rfl rfl rfl) ?_
  refine AList.c 11 rfl rfl rfl (OpJ.move rfl rfl) ?_
  refine AList.g 12 11 rfl rfl rfl rfl rfl rfl rfl [(3, _)] (fun h => And.intro (.inl rfl) (trivial)) (fun h => (OpJ.fieldAddr rfl rfl fd38_0 rfl)) ?_
  refine AList.g 13 11 rfl rfl rfl rfl rfl rfl rfl [(12, _)] (fun h => And.intro (.inr ⟨_, rfl, h⟩) (trivial)) (fun h => (OpJ.load (v := .p (.int .i64 s.lo)) rfl rfl ty3 rfl)) ?_
  refine AList.g 14 11 rfl rfl rfl rfl rfl rfl rfl [(3, _)] (fun h => And.intro (.inl rfl) (trivial)) (fun h => (OpJ.fieldAddr rfl rfl fd38_1 rfl)) ?_
  refine AList.g 15 11 rfl rfl rfl rfl rfl rfl rfl [(14, _)] (fun h => And.intro (.inr ⟨_, rfl, h⟩) (trivial)) (fun h => (OpJ.load (v := .p (.int .i64 s.hi)) rfl rfl ty3 rfl)) ?_
  refine AList.g 16 11 rfl rfl rfl rfl rfl rfl rfl [(13, _), (15, _)] (fun h => And.intro (.inr ⟨_, rfl, h⟩) (And.intro (.inr ⟨_, rfl, h⟩) (trivial))) (fun h => (OpJ.leq rfl rfl rfl)) ?_
  refine AList.c 17 rfl rfl rfl (OpJ.and_ rfl rfl rfl ?_) ?_
  · first | (intro h; rw [h]; rfl) | (intro h; simp_all)
  refine AList.c 18 rfl rfl rfl (OpJ.move rfl rfl) ?_
  refine AList.g 19 18 rfl rfl rfl rfl rfl rfl rfl [(3, _)] (fun h => And.intro (.inl rfl) (trivial)) (fun h => (OpJ.fieldAddr rfl rfl fd38_1 rfl)) ?_
  refine AList.g 20 18 rfl rfl rfl rfl rfl rfl rfl [(19, _)] (fun h => And.intro (.inr ⟨_, rfl, h⟩) (trivial)) (fun h => (OpJ.load (v := .p (.int .i64 s.hi)) rfl rfl ty3 rfl)) ?_
  refine AList.g 21 18 rfl rfl rfl rfl rfl rfl rfl [(2, _)] (fun h => And.intro (.inl rfl) (trivial)) (fun h => (OpJ.move rfl rfl)) ?_
  refine AList.g 22 18 rfl rfl rfl rfl rfl rfl rfl [(20, _), (21, _)] (fun h => And.intro (.inr ⟨_, rfl, h⟩) (And.intro (.inr ⟨_, rfl, h⟩) (trivial))) (fun h => (OpJ.leq rfl rfl rfl)) ?_
  refine AList.c 23 rfl rfl rfl (OpJ.and_ rfl rfl rfl ?_) ?_
  · first | (intro h; rw [h]; rfl) | (intro h; simp_all)
  refine AList.c 6 rfl rfl rfl (OpJ.assign rfl rfl) ?_
  refine AList.nil ?_
  refine AWp.ret ?_
  exact Fin.one rfl (rfl)
theorem check_ok (many most : Int) (valid : Bool) : Pure Tryz.prog 38 [.int .i64 many, .int .i64 most, .bool valid] (.int .i64 (chkN many most valid)) := by
  refine Pure.start (N := 14) Tryz.func38 rfl rfl (Nat.le_of_ble_eq_true rfl) ?_
  refine AWp.seq ?_
  refine AWp.region ?_
  refine AList.c 6 rfl rfl rfl (OpJ.assign rfl rfl) ?_
  refine AList.nil ?_
  refine AWp.seq ?_
  refine AWp.block ?_
  refine AWp.seq ?_
  refine AWp.region ?_
  refine AList.c 8 rfl rfl rfl (OpJ.move rfl rfl) ?_
  refine AList.c 9 rfl rfl rfl (OpJ.move rfl rfl) ?_
  refine AList.c 10 rfl rfl rfl (OpJ.gtr rfl rfl rfl) ?_
  refine AList.c 7 rfl rfl rfl (OpJ.assign rfl rfl) ?_
  refine AList.nil ?_
  refine AWp.cond _ rfl (fun hc0 => ?_) (fun hc0 => ?_)
  · skip
    refine AWp.seq ?_
    refine AWp.region ?_
    refine AList.c 6 rfl rfl rfl (OpJ.assign rfl rfl) ?_
    refine AList.nil ?_
    refine AWp.ret ?_
    refine Fin.oneE rfl rfl ?_
    have h := of_decide_eq_true hc0
    unfold chkN
    rw [if_pos h]
  · skip
    refine AWp.seq ?_
    refine AWp.region ?_
    refine AList.c 12 rfl rfl rfl (OpJ.move rfl rfl) ?_
    refine AList.c 13 rfl rfl rfl (OpJ.not_ rfl rfl) ?_
    refine AList.c 11 rfl rfl rfl (OpJ.assign rfl rfl) ?_
    refine AList.nil ?_
    refine AWp.cond _ rfl (fun hc1 => ?_) (fun hc1 => ?_)
    · skip
      refine AWp.seq ?_
      refine AWp.region ?_
      refine AList.c 6 rfl rfl rfl (OpJ.assign rfl rfl) ?_
      refine AList.nil ?_
      refine AWp.ret ?_
      refine Fin.oneE rfl rfl ?_
      have h := of_decide_eq_false hc0
      unfold chkN
      rw [if_neg h]
      cases valid
      · rfl
      · cases hc1
    · skip
      refine AWp.skip ?_
      refine AWp.seq ?_
      refine AWp.region ?_
      refine AList.c 6 rfl rfl rfl (OpJ.assign rfl rfl) ?_
      refine AList.nil ?_
      refine AWp.ret ?_
      refine Fin.oneE rfl rfl ?_
      have h := of_decide_eq_false hc0
      unfold chkN
      rw [if_neg h]
      cases valid
      · cases hc1
      · rfl
theorem ar1_ok (s : Stk) : Pure Tryz.prog 76 [.agg s.cells] (.bool (stkN s)) := by
  refine Pure.start (N := 13) Tryz.func76 rfl rfl (Nat.le_of_ble_eq_true rfl) ?_
  refine AWp.seq ?_
  refine AWp.region ?_
  refine AList.c 1 rfl rfl rfl (OpJ.boxImm rfl rfl rfl) ?_
  refine AList.c 2 rfl rfl rfl (OpJ.assign rfl rfl) ?_
  refine AList.nil ?_
  refine AWp.seq ?_
  refine AWp.region ?_
  refine AList.c 3 rfl rfl rfl (OpJ.fieldAddr rfl rfl fd90_0 rfl) ?_
  refine AList.c 4 rfl rfl rfl (OpJ.load (v := .p (.agg s.read.cells)) rfl rfl ty38 rfl) ?_
  refine AList.c 5 rfl rfl rfl (OpJ.callP (isSpan_ok _ _ _) rfl rfl rfl rfl rf77) ?_
  refine AList.c 6 rfl rfl rfl (OpJ.not_ rfl rfl) ?_
  refine AList.c 7 rfl rfl rfl (OpJ.move rfl rfl) ?_
  refine AList.g 8 7 rfl rfl rfl rfl rfl rfl rfl [(1, _)] (fun h => And.intro (.inl rfl) (trivial)) (fun h => (OpJ.fieldAddr rfl rfl fd90_1 rfl)) ?_
  refine AList.g 9 7 rfl rfl rfl rfl rfl rfl rfl [(8, _)] (fun h => And.intro (.inr ⟨_, rfl, h⟩) (trivial)) (fun h => (OpJ.load (v := .p (.agg s.paper.cells)) rfl rfl ty38 rfl)) ?_
  refine AList.g 10 7 rfl rfl rfl rfl rfl rfl rfl [(9, _)] (fun h => And.intro (.inr ⟨_, rfl, h⟩) (trivial)) (fun h => (OpJ.callP (isSpan_ok _ _ _) rfl rfl rfl rfl rf77)) ?_
  refine AList.g 11 7 rfl rfl rfl rfl rfl rfl rfl [(10, _)] (fun h => And.intro (.inr ⟨_, rfl, h⟩) (trivial)) (fun h => (OpJ.not_ rfl rfl)) ?_
  refine AList.c 12 rfl rfl rfl (OpJ.or_ rfl rfl rfl ?_) ?_
  · first | (intro h; rw [h]; rfl) | (intro h; simp_all)
  refine AList.c 2 rfl rfl rfl (OpJ.assign rfl rfl) ?_
  refine AList.nil ?_
  refine AWp.ret ?_
  exact Fin.one rfl (rfl)
theorem indexSt_ok (xs : List Stk) (f : PV) (p : Stk → Bool) (hx : xs.length ≤ bigN) (hf : ∀ x ∈ xs, FPure Tryz.prog f [.agg x.cells] (.bool (p x))) : Pure Tryz.prog 95 [.is (xs.flatMap Stk.cells) xs.length, f] (.int .i64 (idxF p xs)) := by
  unfold bigN at hx
  refine Pure.start (N := 19) Tryz.func95 rfl rfl (Nat.le_of_ble_eq_true rfl) ?_
  refine AWp.seq ?_
  refine AWp.region ?_
  refine AList.c 4 rfl rfl rfl (OpJ.assign rfl rfl) ?_
  refine AList.nil ?_
  refine AWp.seq ?_
  refine AWp.seq ?_
  refine AWp.region ?_
  refine AList.c 6 rfl rfl rfl (OpJ.move rfl rfl) ?_
  refine AList.c 7 rfl rfl rfl (OpJ.lenSlice rfl rfl sl36 rfl) ?_
  refine AList.c 8 rfl rfl rfl (OpJ.move rfl rfl) ?_
  refine AList.nil ?_
  refine AWp.block ?_
  refine AWp.loopK [4, 5, 8, 9, 10, 11, 12, 13, 14, 15, 16, 17, 18] (fun g => [(8, .p (.int .i64 ((g : Nat) : Int)))]) (fun g => g ≤ xs.length ∧ ∀ j (hj : j < g) (h : g ≤ xs.length), p (xs[j]'(by omega)) = false) (fun g => xs.length - g) 0 ⟨Nat.zero_le _, fun j hj => absurd hj (by omega)⟩ (Sub.cons rfl (Sub.nil)) (fun i hg => ?_)
  obtain ⟨hg1, hg2⟩ := hg
  refine AWp.seq ?_
  refine AWp.region ?_
  refine AList.c 9 rfl rfl rfl (OpJ.lss rfl rfl rfl) ?_
  refine AList.nil ?_
  refine AWp.seq ?_
  refine AWp.cond _ rfl (fun hc0 => ?_) (fun hc0 => ?_)
  · skip
    refine AWp.skip ?_
    refine AWp.seq ?_
    refine AWp.block ?_
    refine AWp.seq ?_
    refine AWp.region ?_
    refine AList.c 10 rfl rfl rfl (OpJ.move rfl rfl) ?_
    refine AList.c 5 rfl rfl rfl (OpJ.assign rfl rfl) ?_
    refine AList.nil ?_
    refine AWp.seq ?_
    refine AWp.region ?_
    refine AList.c 11 rfl rfl rfl (OpJ.move rfl rfl) ?_
    refine AList.c 12 rfl rfl rfl (OpJ.move rfl rfl) ?_
    refine AList.c 13 rfl rfl rfl (OpJ.move rfl rfl) ?_
    refine AList.c 14 rfl rfl rfl (OpJ.indexEl rfl rfl rfl sl36 el36 rfl (fun _ => rfl) (by decide) ?_) ?_
    · simp at hc0; omega
    refine AList.c 15 rfl rfl rfl (OpJ.load rfl rfl ty90 rfl) ?_
    refine AList.c 16 rfl rfl rfl (OpJ.callF (hf _ (List.getElem_mem _)) rfl rfl rfl) ?_
    refine AList.nil ?_
    refine AWp.cond _ rfl (fun hc1 => ?_) (fun hc1 => ?_)
    · skip
      refine AWp.seq ?_
      refine AWp.region ?_
      refine AList.c 17 rfl rfl rfl (OpJ.move rfl rfl) ?_
      refine AList.c 4 rfl rfl rfl (OpJ.assign rfl rfl) ?_
      refine AList.nil ?_
      refine AWp.ret ?_
      refine Fin.oneE rfl rfl ?_
      rw [idxF_at p xs i (by simp at hc0; omega) (fun j hj => hg2 j hj hg1) hc1]
    · skip
      refine AWp.skip ?_
      refine AWp.region ?_
      refine AList.c 18 rfl rfl rfl (OpJ.add rfl rfl rfl (i64ok ?_)) ?_
      · simp at hc0; omega
      refine AList.c 8 rfl rfl rfl (OpJ.move rfl rfl) ?_
      refine AList.nil ?_
      refine ⟨i + 1, ?_, ?_, ?_⟩
      · refine ⟨by simp at hc0; omega, fun j hj h => ?_⟩
        rcases Nat.lt_succ_iff_lt_or_eq.1 hj with h1 | rfl
        · exact hg2 j h1 hg1
        · exact hc1
      · simp at hc0; omega
      exact To.done [] rfl (by repeat (first | exact Sub.nil | refine Sub.cons rfl ?_)) rfl
  · skip
    refine AWp.exit ?_
    refine AWp.seq ?_
    refine AWp.region ?_
    refine AList.c 4 rfl rfl rfl (OpJ.assign rfl rfl) ?_
    refine AList.nil ?_
    refine AWp.ret ?_
    refine Fin.oneE rfl rfl ?_
    rw [idxF_none p xs (fun j hj => hg2 j (by simp at hc0; omega) hg1)]
theorem containsSt_ok (xs : List Stk) (f : PV) (p : Stk → Bool) (hx : xs.length ≤ bigN) (hf : ∀ x ∈ xs, FPure Tryz.prog f [.agg x.cells] (.bool (p x))) : Pure Tryz.prog 81 [.is (xs.flatMap Stk.cells) xs.length, f] (.bool (xs.any p)) := by
  refine Pure.start (N := 9) Tryz.func81 rfl rfl (Nat.le_of_ble_eq_true rfl) ?_
  refine AWp.seq ?_
  refine AWp.region ?_
  refine AList.c 4 rfl rfl rfl (OpJ.assign rfl rfl) ?_
  refine AList.nil ?_
  refine AWp.seq ?_
  refine AWp.region ?_
  refine AList.c 5 rfl rfl rfl (OpJ.move rfl rfl) ?_
  refine AList.c 6 rfl rfl rfl (OpJ.move rfl rfl) ?_
  refine AList.c 7 rfl rfl rfl (OpJ.callP (indexSt_ok _ _ p ?_ ?_) rfl rfl rfl rfl rf95) ?_
  · exact hx
  · exact hf
  refine AList.c 8 rfl rfl rfl (OpJ.geq rfl rfl rfl) ?_
  refine AList.c 4 rfl rfl rfl (OpJ.assign rfl rfl) ?_
  refine AList.nil ?_
  refine AWp.ret ?_
  refine Fin.oneE rfl rfl ?_
  rw [idxF_any]
theorem riseRpt_ok (l : List Rpt) (fn fr : PV) (num : Rpt → Int) (right : Rpt → Bool) (hl : l.length ≤ bigN) (hn : ∀ x ∈ l, FPure Tryz.prog fn [.agg x.cells] (.int .i64 (num x))) (hr : ∀ x ∈ l, FPure Tryz.prog fr [.agg x.cells] (.bool (right x))) : Pure Tryz.prog 78 [.is (l.flatMap Rpt.cells) l.length, fn, fr] (.bool (riseB num right (-1) l)) := by
  have hl2 := hl
  unfold bigN at hl2
  refine Pure.start (N := 33) Tryz.func78 rfl rfl (Nat.le_of_ble_eq_true rfl) ?_
  refine AWp.seq ?_
  refine AWp.region ?_
  refine AList.c 6 rfl rfl rfl (OpJ.assign rfl rfl) ?_
  refine AList.nil ?_
  refine AWp.seq ?_
  refine AWp.region ?_
  refine AList.c 7 rfl rfl rfl (OpJ.assign rfl rfl) ?_
  refine AList.nil ?_
  refine AWp.seq ?_
  refine AWp.seq ?_
  refine AWp.region ?_
  refine AList.c 11 rfl rfl rfl (OpJ.move rfl rfl) ?_
  refine AList.c 12 rfl rfl rfl (OpJ.lenSlice rfl rfl sl32 rfl) ?_
  refine AList.c 13 rfl rfl rfl (OpJ.move rfl rfl) ?_
  refine AList.nil ?_
  refine AWp.block ?_
  refine AWp.loopHL [1, 2, 11, 12] (fun g => [(13, .p (.int .i64 ((g : Nat) : Int))), (7, .p (.int .i64 (lastR num Rpt.d l g)))]) (fun g => []) (fun g => g ≤ l.length ∧ riseB num right (-1) l = riseB num right (lastR num Rpt.d l g) (l.drop g) ∧ -1 ≤ lastR num Rpt.d l g ∧ lastR num Rpt.d l g ≤ 1000000) (fun g => l.length - g) 0 ⟨Nat.zero_le _, rfl, (by show (-1 : Int) ≤ -1; decide), (by show (-1 : Int) ≤ 1000000; decide)⟩ (To.sub (Sub.chk (Sub.cons rfl (Sub.cons rfl (Sub.nil))))) (fun i ⟨hg1, hg2, hg3, hg4⟩ => ?_)
  refine AWp.seq ?_
  refine AWp.region ?_
  refine AList.c 14 rfl rfl rfl (OpJ.lss rfl rfl rfl) ?_
  refine AList.nil ?_
  refine AWp.seq ?_
  refine AWp.cond _ rfl (fun hc0 => ?_) (fun hc0 => ?_)
  · skip
    have hk0 : i < l.length := by have h := of_decide_eq_true hc0; omega
    refine AWp.skip ?_
    refine AWp.seq ?_
    refine AWp.block ?_
    refine AWp.seq ?_
    refine AWp.region ?_
    refine AList.c 15 rfl rfl rfl (OpJ.indexG (g := gt Rpt.d l) (gt_get _) rfl rfl rfl sl32 el32 rfl (fun _ => rfl) (by decide) hk0) ?_
    refine AList.c 16 rfl rfl rfl (OpJ.load (v := .p (.agg (gt Rpt.d l i).cells)) rfl rfl ty40 rfl) ?_
    refine AList.c 9 rfl rfl rfl (OpJ.allocOwn rfl zr40 rfl) ?_
    refine AList.c0 rfl rfl (OpJ.store rfl rfl rfl rfl rfl ty40 rfl rfl) ?_
    refine AList.nil ?_
    refine AWp.seq ?_
    refine AWp.region ?_
    refine AList.c 17 rfl rfl rfl (OpJ.move rfl rfl) ?_
    refine AList.c 18 rfl rfl rfl (OpJ.load (v := .p (.agg (gt Rpt.d l i).cells)) rfl rfl ty40 rfl) ?_
    refine AList.c 19 rfl rfl rfl (OpJ.callF (hn _ (gt_mem _ hk0)) rfl rfl rfl) ?_
    refine AList.c 10 rfl rfl rfl (OpJ.assign rfl rfl) ?_
    refine AList.nil ?_
    refine AWp.seq ?_
    refine AWp.seq ?_
    refine AWp.region ?_
    refine AList.c 20 rfl rfl rfl (OpJ.move rfl rfl) ?_
    refine AList.c 21 rfl rfl rfl (OpJ.move rfl rfl) ?_
    refine AList.c 22 rfl rfl rfl (OpJ.add rfl rfl rfl (i64ok ?_)) ?_
    · omega
    refine AList.c 23 rfl rfl rfl (OpJ.callP (within_ok _ _ _) rfl rfl rfl rfl rf55) ?_
    refine AList.c 24 rfl rfl rfl (OpJ.not_ rfl rfl) ?_
    refine AList.c 25 rfl rfl rfl (OpJ.move rfl rfl) ?_
    refine AList.g 26 25 rfl rfl rfl rfl rfl rfl rfl [(2, _)] (fun h => And.intro (.inl rfl) (trivial)) (fun h => (OpJ.move rfl rfl)) ?_
    refine AList.g 27 25 rfl rfl rfl rfl rfl rfl rfl [(9, _)] (fun h => And.intro (.inl rfl) (trivial)) (fun h => (OpJ.load (v := .p (.agg (gt Rpt.d l i).cells)) rfl rfl ty40 rfl)) ?_
    refine AList.g 28 25 rfl rfl rfl rfl rfl rfl rfl [(26, _), (27, _)] (fun h => And.intro (.inr ⟨_, rfl, h⟩) (And.intro (.inr ⟨_, rfl, h⟩) (trivial))) (fun h => (OpJ.callF (hr _ (gt_mem _ hk0)) rfl rfl rfl)) ?_
    refine AList.g 29 25 rfl rfl rfl rfl rfl rfl rfl [(28, _)] (fun h => And.intro (.inr ⟨_, rfl, h⟩) (trivial)) (fun h => (OpJ.not_ rfl rfl)) ?_
    refine AList.c 30 rfl rfl rfl (OpJ.or_ rfl rfl rfl ?_) ?_
    · first | (intro h; rw [h]; rfl) | (intro h; simp_all)
    refine AList.nil ?_
    refine AWp.cond _ rfl (fun hc1 => ?_) (fun hc1 => ?_)
    · skip
      refine AWp.seq ?_
      refine AWp.region ?_
      refine AList.c 6 rfl rfl rfl (OpJ.assign rfl rfl) ?_
      refine AList.nil ?_
      refine AWp.ret ?_
      refine Fin.oneE rfl rfl ?_
      rw [hg2, rise_step num right _ Rpt.d l i hk0]
      congr 1
      simp only [Bool.or_eq_true, Bool.not_eq_true'] at hc1
      rcases hc1 with h | h
      · rw [h]; rfl
      · rw [h, Bool.and_false]; rfl
    · skip
      refine AWp.skip ?_
      refine AWp.region ?_
      refine AList.c 31 rfl rfl rfl (OpJ.move rfl rfl) ?_
      refine AList.c 7 rfl rfl rfl (OpJ.assign rfl rfl) ?_
      refine AList.nil ?_
      refine AWp.region ?_
      refine AList.c 32 rfl rfl rfl (OpJ.add rfl rfl rfl (i64ok ?_)) ?_
      · omega
      refine AList.c 13 rfl rfl rfl (OpJ.move rfl rfl) ?_
      refine AList.nil ?_
      refine ⟨i + 1, ?_, ?_, ?_⟩
      · have hq := hc1
        simp only [Bool.or_eq_false_iff, Bool.not_eq_false'] at hq
        have hi2 := hq.1
        simp only [inB, Bool.and_eq_true, decide_eq_true_eq] at hi2
        exact ⟨hk0, by rw [hg2, rise_step num right _ Rpt.d l i hk0, hq.1, hq.2]; rfl, by show -1 ≤ num (gt Rpt.d l i); omega, hi2.2⟩
      · omega
      exact To.done [] rfl (by repeat (first | exact Sub.nil | refine Sub.cons rfl ?_)) rfl
  · skip
    have hi : i = l.length := by have h := of_decide_eq_false hc0; omega
    refine AWp.exit ?_
    refine AWp.seq ?_
    refine AWp.region ?_
    refine AList.c 6 rfl rfl rfl (OpJ.assign rfl rfl) ?_
    refine AList.nil ?_
    refine AWp.ret ?_
    refine Fin.oneE rfl rfl ?_
    rw [hg2, hi, List.drop_length]
    rfl
theorem riseCrd_ok (l : List Crd) (fn fr : PV) (num : Crd → Int) (right : Crd → Bool) (hl : l.length ≤ bigN) (hn : ∀ x ∈ l, FPure Tryz.prog fn [.agg x.cells] (.int .i64 (num x))) (hr : ∀ x ∈ l, FPure Tryz.prog fr [.agg x.cells] (.bool (right x))) : Pure Tryz.prog 60 [.is (l.flatMap Crd.cells) l.length, fn, fr] (.bool (riseB num right (-1) l)) := by
  have hl2 := hl
  unfold bigN at hl2
  refine Pure.start (N := 33) Tryz.func60 rfl rfl (Nat.le_of_ble_eq_true rfl) ?_
  refine AWp.seq ?_
  refine AWp.region ?_
  refine AList.c 6 rfl rfl rfl (OpJ.assign rfl rfl) ?_
  refine AList.nil ?_
  refine AWp.seq ?_
  refine AWp.region ?_
  refine AList.c 7 rfl rfl rfl (OpJ.assign rfl rfl) ?_
  refine AList.nil ?_
  refine AWp.seq ?_
  refine AWp.seq ?_
  refine AWp.region ?_
  refine AList.c 11 rfl rfl rfl (OpJ.move rfl rfl) ?_
  refine AList.c 12 rfl rfl rfl (OpJ.lenSlice rfl rfl sl27 rfl) ?_
  refine AList.c 13 rfl rfl rfl (OpJ.move rfl rfl) ?_
  refine AList.nil ?_
  refine AWp.block ?_
  refine AWp.loopHL [1, 2, 11, 12] (fun g => [(13, .p (.int .i64 ((g : Nat) : Int))), (7, .p (.int .i64 (lastR num Crd.d l g)))]) (fun g => []) (fun g => g ≤ l.length ∧ riseB num right (-1) l = riseB num right (lastR num Crd.d l g) (l.drop g) ∧ -1 ≤ lastR num Crd.d l g ∧ lastR num Crd.d l g ≤ 1000000) (fun g => l.length - g) 0 ⟨Nat.zero_le _, rfl, (by show (-1 : Int) ≤ -1; decide), (by show (-1 : Int) ≤ 1000000; decide)⟩ (To.sub (Sub.chk (Sub.cons rfl (Sub.cons rfl (Sub.nil))))) (fun i ⟨hg1, hg2, hg3, hg4⟩ => ?_)
  refine AWp.seq ?_
  refine AWp.region ?_
  refine AList.c 14 rfl rfl rfl (OpJ.lss rfl rfl rfl) ?_
  refine AList.nil ?_
  refine AWp.seq ?_
  refine AWp.cond _ rfl (fun hc0 => ?_) (fun hc0 => ?_)
  · skip
    have hk0 : i < l.length := by have h := of_decide_eq_true hc0; omega
    refine AWp.skip ?_
    refine AWp.seq ?_
    refine AWp.block ?_
    refine AWp.seq ?_
    refine AWp.region ?_
    refine AList.c 15 rfl rfl rfl (OpJ.indexG (g := gt Crd.d l) (gt_get _) rfl rfl rfl sl27 el27 rfl (fun _ => rfl) (by decide) hk0) ?_
    refine AList.c 16 rfl rfl rfl (OpJ.load (v := .p (.agg (gt Crd.d l i).cells)) rfl rfl ty59 rfl) ?_
    refine AList.c 9 rfl rfl rfl (OpJ.allocOwn rfl zr59 rfl) ?_
    refine AList.c0 rfl rfl (OpJ.store rfl rfl rfl rfl rfl ty59 rfl rfl) ?_
    refine AList.nil ?_
    refine AWp.seq ?_
    refine AWp.region ?_
    refine AList.c 17 rfl rfl rfl (OpJ.move rfl rfl) ?_
    refine AList.c 18 rfl rfl rfl (OpJ.load (v := .p (.agg (gt Crd.d l i).cells)) rfl rfl ty59 rfl) ?_
    refine AList.c 19 rfl rfl rfl (OpJ.callF (hn _ (gt_mem _ hk0)) rfl rfl rfl) ?_
    refine AList.c 10 rfl rfl rfl (OpJ.assign rfl rfl) ?_
    refine AList.nil ?_
    refine AWp.seq ?_
    refine AWp.seq ?_
    refine AWp.region ?_
    refine AList.c 20 rfl rfl rfl (OpJ.move rfl rfl) ?_
    refine AList.c 21 rfl rfl rfl (OpJ.move rfl rfl) ?_
    refine AList.c 22 rfl rfl rfl (OpJ.add rfl rfl rfl (i64ok ?_)) ?_
    · omega
    refine AList.c 23 rfl rfl rfl (OpJ.callP (within_ok _ _ _) rfl rfl rfl rfl rf55) ?_
    refine AList.c 24 rfl rfl rfl (OpJ.not_ rfl rfl) ?_
    refine AList.c 25 rfl rfl rfl (OpJ.move rfl rfl) ?_
    refine AList.g 26 25 rfl rfl rfl rfl rfl rfl rfl [(2, _)] (fun h => And.intro (.inl rfl) (trivial)) (fun h => (OpJ.move rfl rfl)) ?_
    refine AList.g 27 25 rfl rfl rfl rfl rfl rfl rfl [(9, _)] (fun h => And.intro (.inl rfl) (trivial)) (fun h => (OpJ.load (v := .p (.agg (gt Crd.d l i).cells)) rfl rfl ty59 rfl)) ?_
    refine AList.g 28 25 rfl rfl rfl rfl rfl rfl rfl [(26, _), (27, _)] (fun h => And.intro (.inr ⟨_, rfl, h⟩) (And.intro (.inr ⟨_, rfl, h⟩) (trivial))) (fun h => (OpJ.callF (hr _ (gt_mem _ hk0)) rfl rfl rfl)) ?_
    refine AList.g 29 25 rfl rfl rfl rfl rfl rfl rfl [(28, _)] (fun h => And.intro (.inr ⟨_, rfl, h⟩) (trivial)) (fun h => (OpJ.not_ rfl rfl)) ?_
    refine AList.c 30 rfl rfl rfl (OpJ.or_ rfl rfl rfl ?_) ?_
    · first | (intro h; rw [h]; rfl) | (intro h; simp_all)
    refine AList.nil ?_
    refine AWp.cond _ rfl (fun hc1 => ?_) (fun hc1 => ?_)
    · skip
      refine AWp.seq ?_
      refine AWp.region ?_
      refine AList.c 6 rfl rfl rfl (OpJ.assign rfl rfl) ?_
      refine AList.nil ?_
      refine AWp.ret ?_
      refine Fin.oneE rfl rfl ?_
      rw [hg2, rise_step num right _ Crd.d l i hk0]
      congr 1
      simp only [Bool.or_eq_true, Bool.not_eq_true'] at hc1
      rcases hc1 with h | h
      · rw [h]; rfl
      · rw [h, Bool.and_false]; rfl
    · skip
      refine AWp.skip ?_
      refine AWp.region ?_
      refine AList.c 31 rfl rfl rfl (OpJ.move rfl rfl) ?_
      refine AList.c 7 rfl rfl rfl (OpJ.assign rfl rfl) ?_
      refine AList.nil ?_
      refine AWp.region ?_
      refine AList.c 32 rfl rfl rfl (OpJ.add rfl rfl rfl (i64ok ?_)) ?_
      · omega
      refine AList.c 13 rfl rfl rfl (OpJ.move rfl rfl) ?_
      refine AList.nil ?_
      refine ⟨i + 1, ?_, ?_, ?_⟩
      · have hq := hc1
        simp only [Bool.or_eq_false_iff, Bool.not_eq_false'] at hq
        have hi2 := hq.1
        simp only [inB, Bool.and_eq_true, decide_eq_true_eq] at hi2
        exact ⟨hk0, by rw [hg2, rise_step num right _ Crd.d l i hk0, hq.1, hq.2]; rfl, by show -1 ≤ num (gt Crd.d l i); omega, hi2.2⟩
      · omega
      exact To.done [] rfl (by repeat (first | exact Sub.nil | refine Sub.cons rfl ?_)) rfl
  · skip
    have hi : i = l.length := by have h := of_decide_eq_false hc0; omega
    refine AWp.exit ?_
    refine AWp.seq ?_
    refine AWp.region ?_
    refine AList.c 6 rfl rfl rfl (OpJ.assign rfl rfl) ?_
    refine AList.nil ?_
    refine AWp.ret ?_
    refine Fin.oneE rfl rfl ?_
    rw [hg2, hi, List.drop_length]
    rfl
theorem risePck_ok (l : List Pck) (fn fr : PV) (num : Pck → Int) (right : Pck → Bool) (hl : l.length ≤ bigN) (hn : ∀ x ∈ l, FPure Tryz.prog fn [.agg x.cells] (.int .i64 (num x))) (hr : ∀ x ∈ l, FPure Tryz.prog fr [.agg x.cells] (.bool (right x))) : Pure Tryz.prog 52 [.is (l.flatMap Pck.cells) l.length, fn, fr] (.bool (riseB num right (-1) l)) := by
  have hl2 := hl
  unfold bigN at hl2
  refine Pure.start (N := 33) Tryz.func52 rfl rfl (Nat.le_of_ble_eq_true rfl) ?_
  refine AWp.seq ?_
  refine AWp.region ?_
  refine AList.c 6 rfl rfl rfl (OpJ.assign rfl rfl) ?_
  refine AList.nil ?_
  refine AWp.seq ?_
  refine AWp.region ?_
  refine AList.c 7 rfl rfl rfl (OpJ.assign rfl rfl) ?_
  refine AList.nil ?_
  refine AWp.seq ?_
  refine AWp.seq ?_
  refine AWp.region ?_
  refine AList.c 11 rfl rfl rfl (OpJ.move rfl rfl) ?_
  refine AList.c 12 rfl rfl rfl (OpJ.lenSlice rfl rfl sl23 rfl) ?_
  refine AList.c 13 rfl rfl rfl (OpJ.move rfl rfl) ?_
  refine AList.nil ?_
  refine AWp.block ?_
  refine AWp.loopHL [1, 2, 11, 12] (fun g => [(13, .p (.int .i64 ((g : Nat) : Int))), (7, .p (.int .i64 (lastR num Pck.d l g)))]) (fun g => []) (fun g => g ≤ l.length ∧ riseB num right (-1) l = riseB num right (lastR num Pck.d l g) (l.drop g) ∧ -1 ≤ lastR num Pck.d l g ∧ lastR num Pck.d l g ≤ 1000000) (fun g => l.length - g) 0 ⟨Nat.zero_le _, rfl, (by show (-1 : Int) ≤ -1; decide), (by show (-1 : Int) ≤ 1000000; decide)⟩ (To.sub (Sub.chk (Sub.cons rfl (Sub.cons rfl (Sub.nil))))) (fun i ⟨hg1, hg2, hg3, hg4⟩ => ?_)
  refine AWp.seq ?_
  refine AWp.region ?_
  refine AList.c 14 rfl rfl rfl (OpJ.lss rfl rfl rfl) ?_
  refine AList.nil ?_
  refine AWp.seq ?_
  refine AWp.cond _ rfl (fun hc0 => ?_) (fun hc0 => ?_)
  · skip
    have hk0 : i < l.length := by have h := of_decide_eq_true hc0; omega
    refine AWp.skip ?_
    refine AWp.seq ?_
    refine AWp.block ?_
    refine AWp.seq ?_
    refine AWp.region ?_
    refine AList.c 15 rfl rfl rfl (OpJ.indexG (g := gt Pck.d l) (gt_get _) rfl rfl rfl sl23 el23 rfl (fun _ => rfl) (by decide) hk0) ?_
    refine AList.c 16 rfl rfl rfl (OpJ.load (v := .p (.agg (gt Pck.d l i).cells)) rfl rfl ty46 rfl) ?_
    refine AList.c 9 rfl rfl rfl (OpJ.allocOwn rfl zr46 rfl) ?_
    refine AList.c0 rfl rfl (OpJ.store rfl rfl rfl rfl rfl ty46 rfl rfl) ?_
    refine AList.nil ?_
    refine AWp.seq ?_
    refine AWp.region ?_
    refine AList.c 17 rfl rfl rfl (OpJ.move rfl rfl) ?_
    refine AList.c 18 rfl rfl rfl (OpJ.load (v := .p (.agg (gt Pck.d l i).cells)) rfl rfl ty46 rfl) ?_
    refine AList.c 19 rfl rfl rfl (OpJ.callF (hn _ (gt_mem _ hk0)) rfl rfl rfl) ?_
    refine AList.c 10 rfl rfl rfl (OpJ.assign rfl rfl) ?_
    refine AList.nil ?_
    refine AWp.seq ?_
    refine AWp.seq ?_
    refine AWp.region ?_
    refine AList.c 20 rfl rfl rfl (OpJ.move rfl rfl) ?_
    refine AList.c 21 rfl rfl rfl (OpJ.move rfl rfl) ?_
    refine AList.c 22 rfl rfl rfl (OpJ.add rfl rfl rfl (i64ok ?_)) ?_
    · omega
    refine AList.c 23 rfl rfl rfl (OpJ.callP (within_ok _ _ _) rfl rfl rfl rfl rf55) ?_
    refine AList.c 24 rfl rfl rfl (OpJ.not_ rfl rfl) ?_
    refine AList.c 25 rfl rfl rfl (OpJ.move rfl rfl) ?_
    refine AList.g 26 25 rfl rfl rfl rfl rfl rfl rfl [(2, _)] (fun h => And.intro (.inl rfl) (trivial)) (fun h => (OpJ.move rfl rfl)) ?_
    refine AList.g 27 25 rfl rfl rfl rfl rfl rfl rfl [(9, _)] (fun h => And.intro (.inl rfl) (trivial)) (fun h => (OpJ.load (v := .p (.agg (gt Pck.d l i).cells)) rfl rfl ty46 rfl)) ?_
    refine AList.g 28 25 rfl rfl rfl rfl rfl rfl rfl [(26, _), (27, _)] (fun h => And.intro (.inr ⟨_, rfl, h⟩) (And.intro (.inr ⟨_, rfl, h⟩) (trivial))) (fun h => (OpJ.callF (hr _ (gt_mem _ hk0)) rfl rfl rfl)) ?_
    refine AList.g 29 25 rfl rfl rfl rfl rfl rfl rfl [(28, _)] (fun h => And.intro (.inr ⟨_, rfl, h⟩) (trivial)) (fun h => (OpJ.not_ rfl rfl)) ?_
    refine AList.c 30 rfl rfl rfl (OpJ.or_ rfl rfl rfl ?_) ?_
    · first | (intro h; rw [h]; rfl) | (intro h; simp_all)
    refine AList.nil ?_
    refine AWp.cond _ rfl (fun hc1 => ?_) (fun hc1 => ?_)
    · skip
      refine AWp.seq ?_
      refine AWp.region ?_
      refine AList.c 6 rfl rfl rfl (OpJ.assign rfl rfl) ?_
      refine AList.nil ?_
      refine AWp.ret ?_
      refine Fin.oneE rfl rfl ?_
      rw [hg2, rise_step num right _ Pck.d l i hk0]
      congr 1
      simp only [Bool.or_eq_true, Bool.not_eq_true'] at hc1
      rcases hc1 with h | h
      · rw [h]; rfl
      · rw [h, Bool.and_false]; rfl
    · skip
      refine AWp.skip ?_
      refine AWp.region ?_
      refine AList.c 31 rfl rfl rfl (OpJ.move rfl rfl) ?_
      refine AList.c 7 rfl rfl rfl (OpJ.assign rfl rfl) ?_
      refine AList.nil ?_
      refine AWp.region ?_
      refine AList.c 32 rfl rfl rfl (OpJ.add rfl rfl rfl (i64ok ?_)) ?_
      · omega
      refine AList.c 13 rfl rfl rfl (OpJ.move rfl rfl) ?_
      refine AList.nil ?_
      refine ⟨i + 1, ?_, ?_, ?_⟩
      · have hq := hc1
        simp only [Bool.or_eq_false_iff, Bool.not_eq_false'] at hq
        have hi2 := hq.1
        simp only [inB, Bool.and_eq_true, decide_eq_true_eq] at hi2
        exact ⟨hk0, by rw [hg2, rise_step num right _ Pck.d l i hk0, hq.1, hq.2]; rfl, by show -1 ≤ num (gt Pck.d l i); omega, hi2.2⟩
      · omega
      exact To.done [] rfl (by repeat (first | exact Sub.nil | refine Sub.cons rfl ?_)) rfl
  · skip
    have hi : i = l.length := by have h := of_decide_eq_false hc0; omega
    refine AWp.exit ?_
    refine AWp.seq ?_
    refine AWp.region ?_
    refine AList.c 6 rfl rfl rfl (OpJ.assign rfl rfl) ?_
    refine AList.nil ?_
    refine AWp.ret ?_
    refine Fin.oneE rfl rfl ?_
    rw [hg2, hi, List.drop_length]
    rfl
theorem ar2_ok (r : Rpt) : Pure Tryz.prog 79 [.agg r.cells] (.int .i64 r.batch) := by
  refine Pure.start (N := 5) Tryz.func79 rfl rfl (Nat.le_of_ble_eq_true rfl) ?_
  refine AWp.seq ?_
  refine AWp.region ?_
  refine AList.c 1 rfl rfl rfl (OpJ.boxImm rfl rfl rfl) ?_
  refine AList.c 2 rfl rfl rfl (OpJ.assign rfl rfl) ?_
  refine AList.nil ?_
  refine AWp.seq ?_
  refine AWp.region ?_
  refine AList.c 3 rfl rfl rfl (OpJ.fieldAddr rfl rfl fd40_0 rfl) ?_
  refine AList.c 4 rfl rfl rfl (OpJ.load (v := .p (.int .i64 r.batch)) rfl rfl ty3 rfl) ?_
  refine AList.c 2 rfl rfl rfl (OpJ.assign rfl rfl) ?_
  refine AList.nil ?_
  refine AWp.ret ?_
  exact Fin.one rfl (rfl)
theorem ar3_ok (r : Rpt) (hs : r.strokes.length ≤ bigN) : Pure Tryz.prog 80 [.agg r.cells, .ip [(.func (.func 76) [] [])] 0] (.bool (rptB r)) := by
  refine Pure.start (N := 25) Tryz.func80 rfl rfl (Nat.le_of_ble_eq_true rfl) ?_
  refine AWp.seq ?_
  refine AWp.region ?_
  refine AList.c 2 rfl rfl rfl (OpJ.boxImm rfl rfl rfl) ?_
  refine AList.c 3 rfl rfl rfl (OpJ.assign rfl rfl) ?_
  refine AList.nil ?_
  refine AWp.seq ?_
  refine AWp.region ?_
  refine AList.c 4 rfl rfl rfl (OpJ.fieldAddr rfl rfl fd40_1 rfl) ?_
  refine AList.c 5 rfl rfl rfl (OpJ.load (v := .p (stksV r.strokes)) rfl rfl ty36 rfl) ?_
  refine AList.c 6 rfl rfl rfl (OpJ.lenSlice rfl rfl sl36 rfl) ?_
  refine AList.c 7 rfl rfl rfl (OpJ.leq rfl rfl rfl) ?_
  refine AList.c 8 rfl rfl rfl (OpJ.move rfl rfl) ?_
  refine AList.g 9 8 rfl rfl rfl rfl rfl rfl rfl [(2, _)] (fun h => And.intro (.inl rfl) (trivial)) (fun h => (OpJ.fieldAddr rfl rfl fd40_1 rfl)) ?_
  refine AList.g 10 8 rfl rfl rfl rfl rfl rfl rfl [(9, _)] (fun h => And.intro (.inr ⟨_, rfl, h⟩) (trivial)) (fun h => (OpJ.load (v := .p (stksV r.strokes)) rfl rfl ty36 rfl)) ?_
  refine AList.g 11 8 rfl rfl rfl rfl rfl rfl rfl [(1, _)] (fun h => And.intro (.inl rfl) (trivial)) (fun h => (OpJ.load (v := .p (.func (.func 76) [] [])) rfl rfl ty128 rfl)) ?_
  refine AList.g 12 8 rfl rfl rfl rfl rfl rfl rfl [(10, _), (11, _)] (fun h => And.intro (.inr ⟨_, rfl, h⟩) (And.intro (.inr ⟨_, rfl, h⟩) (trivial))) (fun h => (OpJ.callP (containsSt_ok r.strokes _ stkN hs (fun y _ => ⟨76, [.agg y.cells], rfl, rf76, ar1_ok y⟩)) rfl rfl rfl rfl rf81)) ?_
  refine AList.g 13 8 rfl rfl rfl rfl rfl rfl rfl [(12, _)] (fun h => And.intro (.inr ⟨_, rfl, h⟩) (trivial)) (fun h => (OpJ.not_ rfl rfl)) ?_
  refine AList.c 14 rfl rfl rfl (OpJ.and_ rfl rfl rfl ?_) ?_
  · first | (intro h; rw [h]; rfl) | (intro h; simp_all)
  refine AList.c 15 rfl rfl rfl (OpJ.move rfl rfl) ?_
  refine AList.g 16 15 rfl rfl rfl rfl rfl rfl rfl [(2, _)] (fun h => And.intro (.inl rfl) (trivial)) (fun h => (OpJ.fieldAddr rfl rfl fd40_2 rfl)) ?_
  refine AList.g 17 15 rfl rfl rfl rfl rfl rfl rfl [(16, _)] (fun h => And.intro (.inr ⟨_, rfl, h⟩) (trivial)) (fun h => (OpJ.load (v := .p (.agg r.strength.cells)) rfl rfl ty38 rfl)) ?_
  refine AList.g 18 15 rfl rfl rfl rfl rfl rfl rfl [(17, _)] (fun h => And.intro (.inr ⟨_, rfl, h⟩) (trivial)) (fun h => (OpJ.callP (isSpan_ok _ _ _) rfl rfl rfl rfl rf77)) ?_
  refine AList.c 19 rfl rfl rfl (OpJ.and_ rfl rfl rfl ?_) ?_
  · first | (intro h; rw [h]; rfl) | (intro h; simp_all)
  refine AList.c 20 rfl rfl rfl (OpJ.move rfl rfl) ?_
  refine AList.g 21 20 rfl rfl rfl rfl rfl rfl rfl [(2, _)] (fun h => And.intro (.inl rfl) (trivial)) (fun h => (OpJ.fieldAddr rfl rfl fd40_3 rfl)) ?_
  refine AList.g 22 20 rfl rfl rfl rfl rfl rfl rfl [(21, _)] (fun h => And.intro (.inr ⟨_, rfl, h⟩) (trivial)) (fun h => (OpJ.load (v := .p (.agg r.wear.cells)) rfl rfl ty38 rfl)) ?_
  refine AList.g 23 20 rfl rfl rfl rfl rfl rfl rfl [(22, _)] (fun h => And.intro (.inr ⟨_, rfl, h⟩) (trivial)) (fun h => (OpJ.callP (isSpan_ok _ _ _) rfl rfl rfl rfl rf77)) ?_
  refine AList.c 24 rfl rfl rfl (OpJ.and_ rfl rfl rfl ?_) ?_
  · first | (intro h; rw [h]; rfl) | (intro h; simp_all)
  refine AList.c 3 rfl rfl rfl (OpJ.assign rfl rfl) ?_
  refine AList.nil ?_
  refine AWp.ret ?_
  exact Fin.one rfl (rfl)
theorem areReports_ok (l : List Rpt) (hl : l.length ≤ bigN) (hs : ∀ r ∈ l, r.strokes.length ≤ bigN) : Pure Tryz.prog 39 [rptsV l] (.bool (rptsB l)) := by
  refine Pure.start (N := 7) Tryz.func39 rfl rfl (Nat.le_of_ble_eq_true rfl) ?_
  refine AWp.seq ?_
  refine AWp.region ?_
  refine AList.c 2 rfl rfl rfl (OpJ.assign rfl rfl) ?_
  refine AList.nil ?_
  refine AWp.seq ?_
  refine AWp.region ?_
  refine AList.c 3 rfl rfl rfl (OpJ.allocOwn rfl zr128 rfl) ?_
  refine AList.c0 rfl rfl (OpJ.store rfl rfl rfl rfl rfl ty128 rfl rfl) ?_
  refine AList.nil ?_
  refine AWp.seq ?_
  refine AWp.freeze 0 rfl rfl ?_
  refine AWp.region ?_
  refine AList.c 4 rfl rfl rfl (OpJ.move rfl rfl) ?_
  refine AList.c 5 rfl rfl rfl (OpJ.makeFunc rfl rfl rfl) ?_
  refine AList.c 6 rfl rfl rfl (OpJ.callP (riseRpt_ok l _ _ Rpt.batch rptB hl (fun y _ => ⟨79, [.agg y.cells], rfl, rf79, ar2_ok y⟩) (fun y hy => ⟨80, [.agg y.cells, .ip [(.func (.func 76) [] [])] 0], rfl, rf80, ar3_ok y (hs y hy)⟩)) rfl rfl rfl rfl rf78) ?_
  refine AList.c 2 rfl rfl rfl (OpJ.assign rfl rfl) ?_
  refine AList.nil ?_
  refine AWp.ret ?_
  exact Fin.one rfl (rfl)
theorem ac1_ok (c : Crd) : Pure Tryz.prog 61 [.agg c.cells] (.int .i64 c.number) := by
  refine Pure.start (N := 5) Tryz.func61 rfl rfl (Nat.le_of_ble_eq_true rfl) ?_
  refine AWp.seq ?_
  refine AWp.region ?_
  refine AList.c 1 rfl rfl rfl (OpJ.boxImm rfl rfl rfl) ?_
  refine AList.c 2 rfl rfl rfl (OpJ.assign rfl rfl) ?_
  refine AList.nil ?_
  refine AWp.seq ?_
  refine AWp.region ?_
  refine AList.c 3 rfl rfl rfl (OpJ.fieldAddr rfl rfl fd59_0 rfl) ?_
  refine AList.c 4 rfl rfl rfl (OpJ.load (v := .p (.int .i64 c.number)) rfl rfl ty3 rfl) ?_
  refine AList.c 2 rfl rfl rfl (OpJ.assign rfl rfl) ?_
  refine AList.nil ?_
  refine AWp.ret ?_
  exact Fin.one rfl (rfl)
theorem ac2_ok (c : Crd) : Pure Tryz.prog 62 [.agg c.cells] (.bool (crdB c)) := by
  refine Pure.start (N := 21) Tryz.func62 rfl rfl (Nat.le_of_ble_eq_true rfl) ?_
  refine AWp.seq ?_
  refine AWp.region ?_
  refine AList.c 1 rfl rfl rfl (OpJ.boxImm rfl rfl rfl) ?_
  refine AList.c 2 rfl rfl rfl (OpJ.assign rfl rfl) ?_
  refine AList.nil ?_
  refine AWp.seq ?_
  refine AWp.region ?_
  refine AList.c 3 rfl rfl rfl (OpJ.fieldAddr rfl rfl fd59_1 rfl) ?_
  refine AList.c 4 rfl rfl rfl (OpJ.load (v := .p (.int .i64 c.hour)) rfl rfl ty3 rfl) ?_
  refine AList.c 5 rfl rfl rfl (OpJ.callP (within_ok _ _ _) rfl rfl rfl rfl rf55) ?_
  refine AList.c 6 rfl rfl rfl (OpJ.move rfl rfl) ?_
  refine AList.g 7 6 rfl rfl rfl rfl rfl rfl rfl [(1, _)] (fun h => And.intro (.inl rfl) (trivial)) (fun h => (OpJ.fieldAddr rfl rfl fd59_2 rfl)) ?_
  refine AList.g 8 6 rfl rfl rfl rfl rfl rfl rfl [(7, _)] (fun h => And.intro (.inr ⟨_, rfl, h⟩) (trivial)) (fun h => (OpJ.load (v := .p (.int .i64 c.shade)) rfl rfl ty3 rfl)) ?_
  refine AList.g 9 6 rfl rfl rfl rfl rfl rfl rfl [(8, _)] (fun h => And.intro (.inr ⟨_, rfl, h⟩) (trivial)) (fun h => (OpJ.callP (within_ok _ _ _) rfl rfl rfl rfl rf55)) ?_
  refine AList.c 10 rfl rfl rfl (OpJ.and_ rfl rfl rfl ?_) ?_
  · first | (intro h; rw [h]; rfl) | (intro h; simp_all)
  refine AList.c 11 rfl rfl rfl (OpJ.move rfl rfl) ?_
  refine AList.g 12 11 rfl rfl rfl rfl rfl rfl rfl [(1, _)] (fun h => And.intro (.inl rfl) (trivial)) (fun h => (OpJ.fieldAddr rfl rfl fd59_3 rfl)) ?_
  refine AList.g 13 11 rfl rfl rfl rfl rfl rfl rfl [(12, _)] (fun h => And.intro (.inr ⟨_, rfl, h⟩) (trivial)) (fun h => (OpJ.load (v := .p (.int .i64 c.places)) rfl rfl ty3 rfl)) ?_
  refine AList.g 14 11 rfl rfl rfl rfl rfl rfl rfl [(13, _)] (fun h => And.intro (.inr ⟨_, rfl, h⟩) (trivial)) (fun h => (OpJ.callP (within_ok _ _ _) rfl rfl rfl rfl rf55)) ?_
  refine AList.c 15 rfl rfl rfl (OpJ.and_ rfl rfl rfl ?_) ?_
  · first | (intro h; rw [h]; rfl) | (intro h; simp_all)
  refine AList.c 16 rfl rfl rfl (OpJ.move rfl rfl) ?_
  refine AList.g 17 16 rfl rfl rfl rfl rfl rfl rfl [(1, _)] (fun h => And.intro (.inl rfl) (trivial)) (fun h => (OpJ.fieldAddr rfl rfl fd59_4 rfl)) ?_
  refine AList.g 18 16 rfl rfl rfl rfl rfl rfl rfl [(17, _)] (fun h => And.intro (.inr ⟨_, rfl, h⟩) (trivial)) (fun h => (OpJ.load (v := .p (.int .i64 c.many)) rfl rfl ty3 rfl)) ?_
  refine AList.g 19 16 rfl rfl rfl rfl rfl rfl rfl [(18, _)] (fun h => And.intro (.inr ⟨_, rfl, h⟩) (trivial)) (fun h => (OpJ.callP (within_ok _ _ _) rfl rfl rfl rfl rf55)) ?_
  refine AList.c 20 rfl rfl rfl (OpJ.and_ rfl rfl rfl ?_) ?_
  · first | (intro h; rw [h]; rfl) | (intro h; simp_all)
  refine AList.c 2 rfl rfl rfl (OpJ.assign rfl rfl) ?_
  refine AList.nil ?_
  refine AWp.ret ?_
  exact Fin.one rfl (rfl)
theorem areCards_ok (l : List Crd) (hl : l.length ≤ bigN) : Pure Tryz.prog 23 [crdsV l] (.bool (crdsB l)) := by
  refine Pure.start (N := 5) Tryz.func23 rfl rfl (Nat.le_of_ble_eq_true rfl) ?_
  refine AWp.seq ?_
  refine AWp.region ?_
  refine AList.c 2 rfl rfl rfl (OpJ.assign rfl rfl) ?_
  refine AList.nil ?_
  refine AWp.seq ?_
  refine AWp.region ?_
  refine AList.c 3 rfl rfl rfl (OpJ.move rfl rfl) ?_
  refine AList.c 4 rfl rfl rfl (OpJ.callP (riseCrd_ok l _ _ Crd.number crdB hl (fun y _ => ⟨61, [.agg y.cells], rfl, rf61, ac1_ok y⟩) (fun y _ => ⟨62, [.agg y.cells], rfl, rf62, ac2_ok y⟩)) rfl rfl rfl rfl rf60) ?_
  refine AList.c 2 rfl rfl rfl (OpJ.assign rfl rfl) ?_
  refine AList.nil ?_
  refine AWp.ret ?_
  exact Fin.one rfl (rfl)
theorem ap1_ok (p : Pck) : Pure Tryz.prog 53 [.agg p.cells] (.int .i64 p.box) := by
  refine Pure.start (N := 5) Tryz.func53 rfl rfl (Nat.le_of_ble_eq_true rfl) ?_
  refine AWp.seq ?_
  refine AWp.region ?_
  refine AList.c 1 rfl rfl rfl (OpJ.boxImm rfl rfl rfl) ?_
  refine AList.c 2 rfl rfl rfl (OpJ.assign rfl rfl) ?_
  refine AList.nil ?_
  refine AWp.seq ?_
  refine AWp.region ?_
  refine AList.c 3 rfl rfl rfl (OpJ.fieldAddr rfl rfl fd46_0 rfl) ?_
  refine AList.c 4 rfl rfl rfl (OpJ.load (v := .p (.int .i64 p.box)) rfl rfl ty3 rfl) ?_
  refine AList.c 2 rfl rfl rfl (OpJ.assign rfl rfl) ?_
  refine AList.nil ?_
  refine AWp.ret ?_
  exact Fin.one rfl (rfl)
theorem ap2_ok (p : Pck) (hp : p.colours.length ≤ bigN) : Pure Tryz.prog 54 [.agg p.cells] (.bool (pckB p)) := by
  have hp2 := hp
  unfold bigN at hp2
  refine Pure.start (N := 23) Tryz.func54 rfl rfl (Nat.le_of_ble_eq_true rfl) ?_
  refine AWp.seq ?_
  refine AWp.region ?_
  refine AList.c 1 rfl rfl rfl (OpJ.boxImm rfl rfl rfl) ?_
  refine AList.c 2 rfl rfl rfl (OpJ.assign rfl rfl) ?_
  refine AList.nil ?_
  refine AWp.seq ?_
  refine AWp.region ?_
  refine AList.c 3 rfl rfl rfl (OpJ.assign rfl rfl) ?_
  refine AList.nil ?_
  refine AWp.seq ?_
  refine AWp.seq ?_
  refine AWp.region ?_
  refine AList.c 6 rfl rfl rfl (OpJ.fieldAddr rfl rfl fd46_1 rfl) ?_
  refine AList.c 7 rfl rfl rfl (OpJ.load (v := .p (intsV p.colours)) rfl rfl ty44 rfl) ?_
  refine AList.c 8 rfl rfl rfl (OpJ.lenSlice rfl rfl sl44 rfl) ?_
  refine AList.c 9 rfl rfl rfl (OpJ.move rfl rfl) ?_
  refine AList.nil ?_
  refine AWp.block ?_
  refine AWp.loopHL [1, 7, 8, 19, 20, 21, 22] (fun g => [(9, .p (.int .i64 ((g : Nat) : Int))), (3, .p (.int .i64 (lastC p.colours g)))]) (fun g => []) (fun g => g ≤ p.colours.length ∧ colsB 0 p.colours = colsB (lastC p.colours g) (p.colours.drop g)) (fun g => p.colours.length - g) 0 ⟨Nat.zero_le _, rfl⟩ (To.sub (Sub.chk (Sub.cons rfl (Sub.cons rfl (Sub.nil))))) (fun i ⟨hg1, hg2⟩ => ?_)
  refine AWp.seq ?_
  refine AWp.region ?_
  refine AList.c 10 rfl rfl rfl (OpJ.lss rfl rfl rfl) ?_
  refine AList.nil ?_
  refine AWp.seq ?_
  refine AWp.cond _ rfl (fun hc0 => ?_) (fun hc0 => ?_)
  · skip
    have hk0 : i < p.colours.length := by have h := of_decide_eq_true hc0; omega
    refine AWp.skip ?_
    refine AWp.seq ?_
    refine AWp.block ?_
    refine AWp.seq ?_
    refine AWp.region ?_
    refine AList.c 11 rfl rfl rfl (OpJ.indexG (g := gt 0 p.colours) (gt_get _) rfl rfl rfl sl44 el44 rfl (fun _ => rfl) (by decide) hk0) ?_
    refine AList.c 12 rfl rfl rfl (OpJ.load (v := .p (.int .i64 (gt 0 p.colours i))) rfl rfl ty3 rfl) ?_
    refine AList.c 5 rfl rfl rfl (OpJ.assign rfl rfl) ?_
    refine AList.nil ?_
    refine AWp.seq ?_
    refine AWp.seq ?_
    refine AWp.region ?_
    refine AList.c 13 rfl rfl rfl (OpJ.move rfl rfl) ?_
    refine AList.c 14 rfl rfl rfl (OpJ.move rfl rfl) ?_
    refine AList.c 15 rfl rfl rfl (OpJ.callP (within_ok _ _ _) rfl rfl rfl rfl rf55) ?_
    refine AList.c 16 rfl rfl rfl (OpJ.not_ rfl rfl) ?_
    refine AList.nil ?_
    refine AWp.cond _ rfl (fun hc1 => ?_) (fun hc1 => ?_)
    · skip
      refine AWp.seq ?_
      refine AWp.region ?_
      refine AList.c 2 rfl rfl rfl (OpJ.assign rfl rfl) ?_
      refine AList.nil ?_
      refine AWp.ret ?_
      refine Fin.oneE rfl rfl ?_
      have hq : inB (gt 0 p.colours i) (lastC p.colours i) 99 = false := by simpa using hc1
      unfold pckB
      rw [hg2, cols_step _ _ i hk0, hq]
      rfl
    · skip
      refine AWp.skip ?_
      refine AWp.region ?_
      refine AList.c 17 rfl rfl rfl (OpJ.move rfl rfl) ?_
      refine AList.c 3 rfl rfl rfl (OpJ.assign rfl rfl) ?_
      refine AList.nil ?_
      refine AWp.region ?_
      refine AList.c 18 rfl rfl rfl (OpJ.add rfl rfl rfl (i64ok ?_)) ?_
      · omega
      refine AList.c 9 rfl rfl rfl (OpJ.move rfl rfl) ?_
      refine AList.nil ?_
      refine ⟨i + 1, ?_, ?_, ?_⟩
      · have hq : inB (gt 0 p.colours i) (lastC p.colours i) 99 = true := by simpa using hc1
        exact ⟨hk0, by rw [hg2, cols_step _ _ i hk0, hq]; rfl⟩
      · omega
      exact To.done [] rfl (by repeat (first | exact Sub.nil | refine Sub.cons rfl ?_)) rfl
  · skip
    have hi : i = p.colours.length := by have h := of_decide_eq_false hc0; omega
    refine AWp.exit ?_
    refine AWp.seq ?_
    refine AWp.region ?_
    refine AList.c 19 rfl rfl rfl (OpJ.fieldAddr rfl rfl fd46_1 rfl) ?_
    refine AList.c 20 rfl rfl rfl (OpJ.load (v := .p (intsV p.colours)) rfl rfl ty44 rfl) ?_
    refine AList.c 21 rfl rfl rfl (OpJ.lenSlice rfl rfl sl44 rfl) ?_
    refine AList.c 22 rfl rfl rfl (OpJ.callP (within_ok _ _ _) rfl rfl rfl rfl rf55) ?_
    refine AList.c 2 rfl rfl rfl (OpJ.assign rfl rfl) ?_
    refine AList.nil ?_
    refine AWp.ret ?_
    refine Fin.oneE rfl rfl ?_
    unfold pckB
    rw [hg2, hi, List.drop_length]
    rfl
theorem arePacks_ok (l : List Pck) (hl : l.length ≤ bigN) (hs : ∀ p ∈ l, p.colours.length ≤ bigN) : Pure Tryz.prog 20 [pcksV l] (.bool (pcksB l)) := by
  refine Pure.start (N := 5) Tryz.func20 rfl rfl (Nat.le_of_ble_eq_true rfl) ?_
  refine AWp.seq ?_
  refine AWp.region ?_
  refine AList.c 2 rfl rfl rfl (OpJ.assign rfl rfl) ?_
  refine AList.nil ?_
  refine AWp.seq ?_
  refine AWp.region ?_
  refine AList.c 3 rfl rfl rfl (OpJ.move rfl rfl) ?_
  refine AList.c 4 rfl rfl rfl (OpJ.callP (risePck_ok l _ _ Pck.box pckB hl (fun y _ => ⟨53, [.agg y.cells], rfl, rf53, ap1_ok y⟩) (fun y hy => ⟨54, [.agg y.cells], rfl, rf54, ap2_ok y (hs y hy)⟩)) rfl rfl rfl rfl rf52) ?_
  refine AList.c 2 rfl rfl rfl (OpJ.assign rfl rfl) ?_
  refine AList.nil ?_
  refine AWp.ret ?_
  exact Fin.one rfl (rfl)
end Go.Proofs.YtambmifhidallaaGreatDoor
end
