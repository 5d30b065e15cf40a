/-
  Builders; numbers in decimal.
  Contracts of the library's shelf, laid at this program by the kit's tool.
  Numbers in decimal.
  What a writer puts.
  What is valid.
-/
import Derived.Test.YtplofbjppcbchaaDoorMzVF
import Derived.Test.YtplofbjppcbchaaDoorMzVP
import Derived.Shelf.LaysM
import Derived.Shelf.Strconv.Itoa3
import Derived.Shelf.Bits.Mul64
import Derived.Test.YtplofbjppcbchaaDoorProg
section
set_option linter.unusedVariables false
set_option maxRecDepth 100000
set_option maxHeartbeats 4000000
set_option linter.unusedSimpArgs false
namespace Go.Proofs.YtplofbjppcbchaaDoor
open Go.AF
theorem esc_ok : escI Tryd.prog 81 := ⟨_, Tryd.func81, by kernel_rfl, by kernel_rfl, by kernel_rfl, by kernel_rfl⟩
theorem lies_ok : liesAt Tryd.prog Tryd.prog.depth 62 (2 / Tryd.prog.cellsOf 62) 0 60 1 = true := by kernel_rfl
theorem cc_fresh (v : V) (B : Blk) : ACalls Tryd.prog 58 [.ptr 0 0] [.cells [.p .nilPtr, v] 62, B] fun r H' => r = .p (.tuple []) ∧ H' = [.cells [.ptr 0 0, v] 62, B] := by
  refine ACalls.start (N := 20) Tryd.func58 rfl rfl (Nat.le_of_ble_eq_true rfl) ?_
  refine AWp.seq ?_
  refine AWp.region ?_
  refine AList.c 2 rfl rfl rfl (OpJ.move rfl rfl) ?_
  refine AList.c 3 rfl rfl rfl (OpJ.nilCheck rfl rfl) ?_
  refine AList.c 4 rfl rfl rfl (OpJ.fieldAddr rfl rfl fd60_0 rfl) ?_
  refine AList.c 5 rfl rfl rfl (OpJ.load rfl rfl ty57 rfl) ?_
  refine AList.c 6 rfl rfl rfl (OpJ.ptrNil rfl rfl rfl pt57) ?_
  refine AList.nil ?_
  refine AWp.condT rfl ?_
  refine AWp.region ?_
  refine AList.c 7 rfl rfl rfl (OpJ.move rfl rfl) ?_
  refine AList.c 8 rfl rfl rfl (OpJ.move rfl rfl) ?_
  refine AList.c 9 rfl rfl rfl (OpJ.toUsp rfl rfl pt57 us140 (by decide) rfl (Nat.succ_pos _)) ?_
  refine AList.c 10 rfl rfl rfl (OpJ.noEsc rfl rfl esc_ok) ?_
  refine AList.c 11 rfl rfl rfl (OpJ.ofUsp rfl rfl us140 pt57 rfl lies_ok) ?_
  refine AList.c 12 rfl rfl rfl (OpJ.nilCheck rfl rfl) ?_
  refine AList.c 13 rfl rfl rfl (OpJ.fieldAddr rfl rfl fd60_0 rfl) ?_
  refine AList.c0 rfl rfl (OpJ.store rfl rfl rfl rfl rfl ty57 rfl rfl) ?_
  refine AList.nil ?_
  exact ⟨.inl rfl, _, resV.none_ rfl, rfl, rfl⟩
theorem cc_used (v : V) (B : Blk) : ACalls Tryd.prog 58 [.ptr 0 0] [.cells [.ptr 0 0, v] 62, B] fun r H' => r = .p (.tuple []) ∧ H' = [.cells [.ptr 0 0, v] 62, B] := by
  refine ACalls.start (N := 20) Tryd.func58 rfl rfl (Nat.le_of_ble_eq_true rfl) ?_
  refine AWp.seq ?_
  refine AWp.region ?_
  refine AList.c 2 rfl rfl rfl (OpJ.move rfl rfl) ?_
  refine AList.c 3 rfl rfl rfl (OpJ.nilCheck rfl rfl) ?_
  refine AList.c 4 rfl rfl rfl (OpJ.fieldAddr rfl rfl fd60_0 rfl) ?_
  refine AList.c 5 rfl rfl rfl (OpJ.load rfl rfl ty57 rfl) ?_
  refine AList.c 6 rfl rfl rfl (OpJ.ptrNot rfl rfl rfl pt57) ?_
  refine AList.nil ?_
  refine AWp.condF rfl ?_
  refine AWp.seq ?_
  refine AWp.region ?_
  refine AList.c 14 rfl rfl rfl (OpJ.move rfl rfl) ?_
  refine AList.c 15 rfl rfl rfl (OpJ.nilCheck rfl rfl) ?_
  refine AList.c 16 rfl rfl rfl (OpJ.fieldAddr rfl rfl fd60_0 rfl) ?_
  refine AList.c 17 rfl rfl rfl (OpJ.load rfl rfl ty57 rfl) ?_
  refine AList.c 18 rfl rfl rfl (OpJ.move rfl rfl) ?_
  refine AList.c 19 rfl rfl rfl (OpJ.ptrSame rfl rfl rfl pt57) ?_
  refine AList.nil ?_
  refine AWp.condF rfl ?_
  refine AWp.skip ?_
  exact ⟨.inl rfl, _, resV.none_ rfl, rfl, rfl⟩
theorem cc_ok (l : Bs) : ACalls Tryd.prog 58 [.ptr 0 0] [wC 62 0 1 l, wF 5 l] fun r H' => r = .p (.tuple []) ∧ H' = [.cells [.ptr 0 0, accV 1 l.length] 62, wF 5 l] := by
  cases l with
  | nil => exact cc_fresh _ _
  | cons c t => exact cc_used _ _
theorem w_end (l s : Bs) (hs : 0 < s.length) : [Blk.cells [.ptr 0 0, .row 2 (l.length + s.length)] 62, .dead, .rowF (bV l ++ bV s) 5] = [wC 62 0 2 (l ++ s), .dead, wF 5 (l ++ s)] := by
  have h : 0 < (l ++ s).length := by rw [List.length_append]; omega
  rw [wC_pos h, wF_pos h, bV_append, List.length_append]
theorem wstr_ok (l : Bs) (s : Bs) (hs : 0 < s.length) (hb : (l ++ s).length ≤ 1099511627776) : ACallsW Tryd.prog 62 5 52 [.str (sB s)] l (s) (.tuple [.int .i64 (s.length : Int), .nilIface]) := by
  have hlen : l.length ≤ 1099511627776 := by rw [List.length_append] at hb; omega
  have hlen2 := hb
  rw [List.length_append] at hlen2
  refine ACalls.start (N := 19) Tryd.func52 rfl rfl (Nat.le_of_ble_eq_true rfl) ?_
  refine AWp.seq ?_
  refine AWp.region ?_
  refine AList.c 4 rfl rfl rfl (OpJ.assign rfl rfl) ?_
  refine AList.c 5 rfl rfl rfl (OpJ.assign rfl rfl) ?_
  refine AList.nil ?_
  refine AWp.seq ?_
  refine AWp.region ?_
  refine AList.c 6 rfl rfl rfl (OpJ.move rfl rfl) ?_
  refine AList.callX 7 (cc_ok l) rfl rfl rfl rfl rfl rfl rfl rf58 (fun v H2 hQ2 => ?_)
  obtain ⟨rfl, rfl⟩ := hQ2
  refine AList.nil ?_
  refine AWp.seq ?_
  refine AWp.region ?_
  refine AList.c 8 rfl rfl rfl (OpJ.move rfl rfl) ?_
  refine AList.c 9 rfl rfl rfl (OpJ.move rfl rfl) ?_
  refine AList.c 10 rfl rfl rfl (OpJ.nilCheck rfl rfl) ?_
  refine AList.c 11 rfl rfl rfl (OpJ.fieldAddr rfl rfl fd60_1 rfl) ?_
  refine AList.c 12 rfl rfl rfl (OpJ.load rfl rfl ty58 rfl) ?_
  refine AList.c 13 rfl rfl rfl (OpJ.move rfl rfl) ?_
  refine AList.c 14 rfl rfl rfl (OpJ.appendAccF rfl rfl slz58 rfl (by simp [bV_length]) (ASrc.str rfl st9) hs (bV_one _) by5 (by decide) (by omega)) ?_
  refine AList.c 15 rfl rfl rfl (OpJ.nilCheck rfl rfl) ?_
  refine AList.c 16 rfl rfl rfl (OpJ.fieldAddr rfl rfl fd60_1 rfl) ?_
  refine AList.c0 rfl rfl (OpJ.store rfl rfl rfl rfl rfl ty58 rfl rfl) ?_
  refine AList.nil ?_
  refine AWp.seq ?_
  refine AWp.region ?_
  refine AList.c 17 rfl rfl rfl (OpJ.move rfl rfl) ?_
  refine AList.c 18 rfl rfl rfl (OpJ.lenStr rfl rfl un9) ?_
  refine AList.c 4 rfl rfl rfl (OpJ.assign rfl rfl) ?_
  refine AList.c 5 rfl rfl rfl (OpJ.assign rfl rfl) ?_
  refine AList.nil ?_
  refine AWp.ret ?_
  exact FinO.many (xs := [.int .i64 (s.length : Int), .nilIface]) rfl ⟨_, _, rfl, rfl, ⟨_, _, rfl, rfl, rfl⟩⟩ rfl ⟨rfl, w_end l s hs⟩
theorem wbytes_ok (l : Bs) (s : Bs) (hs : 0 < s.length) (hb : (l ++ s).length ≤ 1099511627776) : ACallsW Tryd.prog 62 5 25 [.is (bP s) s.length] l (s) (.tuple [.int .i64 (s.length : Int), .nilIface]) := by
  have hlen : l.length ≤ 1099511627776 := by rw [List.length_append] at hb; omega
  have hlen2 := hb
  rw [List.length_append] at hlen2
  refine ACalls.start (N := 19) Tryd.func25 rfl rfl (Nat.le_of_ble_eq_true rfl) ?_
  refine AWp.seq ?_
  refine AWp.region ?_
  refine AList.c 4 rfl rfl rfl (OpJ.assign rfl rfl) ?_
  refine AList.c 5 rfl rfl rfl (OpJ.assign rfl rfl) ?_
  refine AList.nil ?_
  refine AWp.seq ?_
  refine AWp.region ?_
  refine AList.c 6 rfl rfl rfl (OpJ.move rfl rfl) ?_
  refine AList.callX 7 (cc_ok l) rfl rfl rfl rfl rfl rfl rfl rf58 (fun v H2 hQ2 => ?_)
  obtain ⟨rfl, rfl⟩ := hQ2
  refine AList.nil ?_
  refine AWp.seq ?_
  refine AWp.region ?_
  refine AList.c 8 rfl rfl rfl (OpJ.move rfl rfl) ?_
  refine AList.c 9 rfl rfl rfl (OpJ.move rfl rfl) ?_
  refine AList.c 10 rfl rfl rfl (OpJ.nilCheck rfl rfl) ?_
  refine AList.c 11 rfl rfl rfl (OpJ.fieldAddr rfl rfl fd60_1 rfl) ?_
  refine AList.c 12 rfl rfl rfl (OpJ.load rfl rfl ty58 rfl) ?_
  refine AList.c 13 rfl rfl rfl (OpJ.move rfl rfl) ?_
  refine AList.c 14 rfl rfl rfl (OpJ.appendAccF rfl rfl slz58 rfl (by simp [bV_length]) (ASrc.of rfl sl58 (asrc_b s)) hs (bV_one _) by5 (by decide) (by omega)) ?_
  refine AList.c 15 rfl rfl rfl (OpJ.nilCheck rfl rfl) ?_
  refine AList.c 16 rfl rfl rfl (OpJ.fieldAddr rfl rfl fd60_1 rfl) ?_
  refine AList.c0 rfl rfl (OpJ.store rfl rfl rfl rfl rfl ty58 rfl rfl) ?_
  refine AList.nil ?_
  refine AWp.seq ?_
  refine AWp.region ?_
  refine AList.c 17 rfl rfl rfl (OpJ.move rfl rfl) ?_
  refine AList.c 18 rfl rfl rfl (OpJ.lenSlice rfl rfl sl58 rfl) ?_
  refine AList.c 4 rfl rfl rfl (OpJ.assign rfl rfl) ?_
  refine AList.c 5 rfl rfl rfl (OpJ.assign rfl rfl) ?_
  refine AList.nil ?_
  refine AWp.ret ?_
  exact FinO.many (xs := [.int .i64 (s.length : Int), .nilIface]) rfl ⟨_, _, rfl, rfl, ⟨_, _, rfl, rfl, rfl⟩⟩ rfl ⟨rfl, w_end l s hs⟩
theorem wbyte_ok (l : Bs) (b : UInt8) (hb : (l ++ [b]).length ≤ 1099511627776) : ACallsW Tryd.prog 62 5 26 [.int .u8 b.toNat] l ([b]) .nilIface := by
  have hlen : l.length ≤ 1099511627776 := by rw [List.length_append] at hb; omega
  have hlen2 := hb
  rw [List.length_append] at hlen2
  refine ACalls.start (N := 17) Tryd.func26 rfl rfl (Nat.le_of_ble_eq_true rfl) ?_
  refine AWp.seq ?_
  refine AWp.region ?_
  refine AList.c 4 rfl rfl rfl (OpJ.assign rfl rfl) ?_
  refine AList.nil ?_
  refine AWp.seq ?_
  refine AWp.region ?_
  refine AList.c 5 rfl rfl rfl (OpJ.move rfl rfl) ?_
  refine AList.callX 6 (cc_ok l) rfl rfl rfl rfl rfl rfl rfl rf58 (fun v H2 hQ2 => ?_)
  obtain ⟨rfl, rfl⟩ := hQ2
  refine AList.nil ?_
  refine AWp.seq ?_
  refine AWp.region ?_
  refine AList.c 7 rfl rfl rfl (OpJ.move rfl rfl) ?_
  refine AList.c 8 rfl rfl rfl (OpJ.move rfl rfl) ?_
  refine AList.c 9 rfl rfl rfl (OpJ.nilCheck rfl rfl) ?_
  refine AList.c 10 rfl rfl rfl (OpJ.fieldAddr rfl rfl fd60_1 rfl) ?_
  refine AList.c 11 rfl rfl rfl (OpJ.load rfl rfl ty58 rfl) ?_
  refine AList.c 12 rfl rfl rfl (OpJ.move rfl rfl) ?_
  refine AList.c 13 rfl rfl rfl (OpJ.buildImm rfl slz58 (by decide) rfl rfl rfl) ?_
  refine AList.c 14 rfl rfl rfl (OpJ.appendAccF rfl rfl slz58 rfl (by simp [bV_length]) (ASrc.of rfl sl58 (asrc_b [b])) (Nat.succ_pos _) (bV_one [b]) by5 (by decide) (by show (2 * (l.length + 1) + 192) * 1 ≤ 281474976710656; omega)) ?_
  refine AList.c 15 rfl rfl rfl (OpJ.nilCheck rfl rfl) ?_
  refine AList.c 16 rfl rfl rfl (OpJ.fieldAddr rfl rfl fd60_1 rfl) ?_
  refine AList.c0 rfl rfl (OpJ.store rfl rfl rfl rfl rfl ty58 rfl rfl) ?_
  refine AList.nil ?_
  refine AWp.seq ?_
  refine AWp.region ?_
  refine AList.c 4 rfl rfl rfl (OpJ.assign rfl rfl) ?_
  refine AList.nil ?_
  refine AWp.ret ?_
  exact FinO.one rfl rfl ⟨rfl, w_end l [b] (by simp)⟩
theorem bstr_nil (a : V) : ACalls Tryd.prog 22 [.ptr 0 0] [.cells [a, .p .nilSlice] 62, .dead] fun r H' => r = .p (.str (sB [])) ∧ H' = [.cells [a, .p .nilSlice] 62, .dead] := by
  refine ACalls.start (N := 14) Tryd.func22 rfl rfl (Nat.le_of_ble_eq_true rfl) ?_
  refine AWp.seq ?_
  refine AWp.region ?_
  refine AList.c 2 rfl rfl rfl (OpJ.assign rfl rfl) ?_
  refine AList.nil ?_
  refine AWp.seq ?_
  refine AWp.regionDraw 12 mixed (by kernel_rfl) (by decide) ?_
  refine AQuiet.cons 3 rfl rfl rfl (OpJ.move rfl rfl) ?_
  refine AQuiet.cons 4 rfl rfl rfl (OpJ.nilCheck rfl rfl) ?_
  refine AQuiet.cons 5 rfl rfl rfl (OpJ.fieldAddr rfl rfl fd60_1 rfl) ?_
  refine AQuiet.cons 6 rfl rfl rfl (OpJ.load rfl rfl ty58 rfl) ?_
  refine AQuiet.cons 7 rfl rfl rfl (OpJ.sliceDataNil rfl rfl) ?_
  refine AQuiet.cons 8 rfl rfl rfl (OpJ.move rfl rfl) ?_
  refine AQuiet.cons 9 rfl rfl rfl (OpJ.nilCheck rfl rfl) ?_
  refine AQuiet.cons 10 rfl rfl rfl (OpJ.fieldAddr rfl rfl fd60_1 rfl) ?_
  refine AQuiet.cons 11 rfl rfl rfl (OpJ.load rfl rfl ty58 rfl) ?_
  refine AQuiet.cons 12 rfl rfl rfl (OpJ.lenSlice rfl rfl sl58 rfl) ?_
  refine AQuiet.cons 13 rfl rfl rfl (OpJ.ustrNil rfl rfl rfl) ?_
  refine AQuiet.cons 2 rfl rfl rfl (OpJ.assign rfl rfl) ?_
  refine AQuiet.nil ?_
  refine AList.nil ?_
  refine AWp.ret ?_
  exact FinO.one rfl rfl ⟨rfl, rfl⟩
theorem bstr_some (a : V) (l : Bs) (hl : 0 < l.length) (hb : l.length ≤ 1099511627776) : ACalls Tryd.prog 22 [.ptr 0 0] [.cells [a, .row 1 l.length] 62, .rowF (bV l) 5] fun r H' => r = .p (.str (sB l)) ∧ H' = [.cells [a, .row 1 l.length] 62, .rowF (bV l) 5] := by
  refine ACalls.start (N := 14) Tryd.func22 rfl rfl (Nat.le_of_ble_eq_true rfl) ?_
  refine AWp.seq ?_
  refine AWp.region ?_
  refine AList.c 2 rfl rfl rfl (OpJ.assign rfl rfl) ?_
  refine AList.nil ?_
  refine AWp.seq ?_
  refine AWp.regionDraw 12 mixed (by kernel_rfl) (by decide) ?_
  refine AQuiet.cons 3 rfl rfl rfl (OpJ.move rfl rfl) ?_
  refine AQuiet.cons 4 rfl rfl rfl (OpJ.nilCheck rfl rfl) ?_
  refine AQuiet.cons 5 rfl rfl rfl (OpJ.fieldAddr rfl rfl fd60_1 rfl) ?_
  refine AQuiet.cons 6 rfl rfl rfl (OpJ.load rfl rfl ty58 rfl) ?_
  refine AQuiet.cons 7 rfl rfl rfl (OpJ.sliceDataRow rfl rfl hl) ?_
  refine AQuiet.cons 8 rfl rfl rfl (OpJ.move rfl rfl) ?_
  refine AQuiet.cons 9 rfl rfl rfl (OpJ.nilCheck rfl rfl) ?_
  refine AQuiet.cons 10 rfl rfl rfl (OpJ.fieldAddr rfl rfl fd60_1 rfl) ?_
  refine AQuiet.cons 11 rfl rfl rfl (OpJ.load rfl rfl ty58 rfl) ?_
  refine AQuiet.cons 12 rfl rfl rfl (OpJ.lenSlice rfl rfl sl58 rfl) ?_
  refine AQuiet.cons 13 rfl rfl rfl (OpJ.ustrRow l rfl rfl rfl ub112_5 rfl hl (by omega)) ?_
  refine AQuiet.cons 2 rfl rfl rfl (OpJ.assign rfl rfl) ?_
  refine AQuiet.nil ?_
  refine AList.nil ?_
  refine AWp.ret ?_
  exact FinO.one rfl rfl ⟨rfl, rfl⟩
theorem bstr_ok (l : Bs) (hb : l.length ≤ 1099511627776) : ACalls Tryd.prog 22 [.ptr 0 0] [wC 62 0 1 l, wF 5 l] fun r H' => r = .p (.str (sB l)) ∧ H' = [wC 62 0 1 l, wF 5 l] := by
  cases l with
  | nil => exact bstr_nil _
  | cons c t => exact bstr_some _ (c :: t) (Nat.succ_pos _) hb
end Go.Proofs.YtplofbjppcbchaaDoor
end

section
namespace Go.Proofs
open Go.Shelf
def Tryd.laysM171_ren : Go.Shelf.Ren := ⟨fun | 171 => 53 | 243 => 80 | 246 => 85 | 283 => 89 | 284 => 90 | 285 => 91 | 286 => 92 | 129 => 95 | 317 => 94 | 318 => 96 | 319 => 97 | 320 => 98 | 337 => 99 | 338 => 100 | n => n, fun | 3 => 3 | 9 => 9 | 2 => 2 | 4 => 4 | 171 => 151 | 0 => 0 | 53 => 148 | 37 => 58 | 5 => 5 | 173 => 154 | 212 => 159 | 51 => 145 | 20 => 20 | 213 => 160 | 46 => 117 | 232 => 164 | 233 => 165 | n => n, fun | 17 => 0 | 18 => 1 | 19 => 2 | n => n⟩
theorem Tryd.laysM171 : Go.Proofs.LaysM.n171 Tryd.prog Tryd.laysM171_ren := {
  mixed := by kernel_rfl
  f129 := Tryd.func95.trans (congrArg some (by kernel_rfl))
  f171 := Tryd.func53.trans (congrArg some (by kernel_rfl))
  f243 := Tryd.func80.trans (congrArg some (by kernel_rfl))
  f246 := Tryd.func85.trans (congrArg some (by kernel_rfl))
  f283 := Tryd.func89.trans (congrArg some (by kernel_rfl))
  f284 := Tryd.func90.trans (congrArg some (by kernel_rfl))
  f285 := Tryd.func91.trans (congrArg some (by kernel_rfl))
  f286 := Tryd.func92.trans (congrArg some (by kernel_rfl))
  f317 := Tryd.func94.trans (congrArg some (by kernel_rfl))
  f318 := Tryd.func96.trans (congrArg some (by kernel_rfl))
  f319 := Tryd.func97.trans (congrArg some (by kernel_rfl))
  f320 := Tryd.func98.trans (congrArg some (by kernel_rfl))
  f337 := Tryd.func99.trans (congrArg some (by kernel_rfl))
  f338 := Tryd.func100.trans (congrArg some (by kernel_rfl))
  t0 := Tryd.underlying0
  a0 := Tryd.isAgg0
  z0 := Tryd.sizeOf0
  v0 := Tryd.zeroValue0
  t2 := Tryd.underlying2
  a2 := Tryd.isAgg2
  z2 := Tryd.sizeOf2
  v2 := Tryd.zeroValue2
  t3 := Tryd.underlying3
  a3 := Tryd.isAgg3
  z3 := Tryd.sizeOf3
  v3 := Tryd.zeroValue3
  t4 := Tryd.underlying4
  a4 := Tryd.isAgg4
  z4 := Tryd.sizeOf4
  v4 := Tryd.zeroValue4
  t5 := Tryd.underlying5
  a5 := Tryd.isAgg5
  z5 := Tryd.sizeOf5
  v5 := Tryd.zeroValue5
  t9 := Tryd.underlying9
  a9 := Tryd.isAgg9
  z9 := Tryd.sizeOf9
  v9 := Tryd.zeroValue9
  t20 := Tryd.underlying20
  a20 := Tryd.isAgg20
  z20 := Tryd.sizeOf20
  v20 := Tryd.zeroValue20
  t37 := Tryd.underlying58
  a37 := Tryd.isAgg58
  z37 := Tryd.sizeOf58
  v37 := Tryd.zeroValue58
  t46 := Tryd.underlying117
  a46 := Tryd.isAgg117
  z46 := Tryd.sizeOf117
  v46 := Tryd.zeroValue117
  t51 := Tryd.underlying145
  a51 := Tryd.isAgg145
  z51 := Tryd.sizeOf145
  v51 := Tryd.zeroValue145
  t53 := Tryd.underlying148
  a53 := Tryd.isAgg148
  z53 := Tryd.sizeOf148
  v53 := Tryd.zeroValue148
  t171 := Tryd.underlying151
  a171 := Tryd.isAgg151
  z171 := Tryd.sizeOf151
  v171 := Tryd.zeroValue151
  t173 := Tryd.underlying154
  a173 := Tryd.isAgg154
  z173 := Tryd.sizeOf154
  v173 := Tryd.zeroValue154
  t212 := Tryd.underlying159
  a212 := Tryd.isAgg159
  z212 := Tryd.sizeOf159
  v212 := Tryd.zeroValue159
  t213 := Tryd.underlying160
  a213 := Tryd.isAgg160
  z213 := Tryd.sizeOf160
  t232 := Tryd.underlying164
  a232 := Tryd.isAgg164
  z232 := Tryd.sizeOf164
  v232 := Tryd.zeroValue164
  t233 := Tryd.underlying165
  a233 := Tryd.isAgg165
  z233 := Tryd.sizeOf165
  v233 := Tryd.zeroValue165
  g17 := by kernel_rfl
  g18 := by kernel_rfl
  g19 := by kernel_rfl
  i0 := by kernel_rfl
  i2 := by kernel_rfl
  i3 := by kernel_rfl
  i4 := by kernel_rfl
  i5 := by kernel_rfl
  i9 := by kernel_rfl
  i20 := by kernel_rfl
  i37 := by kernel_rfl
  i46 := by kernel_rfl
  i51 := by kernel_rfl
  i53 := by kernel_rfl
  i171 := by kernel_rfl
  i173 := by kernel_rfl
  i212 := by kernel_rfl
  i232 := by kernel_rfl
  i233 := by kernel_rfl
  m17 := by kernel_rfl
  m18 := by kernel_rfl
  m19 := by kernel_rfl }
def Tryd.lays212_ren : Go.Shelf.Ren := ⟨fun | 212 => 83 | 263 => 87 | 264 => 88 | n => n, fun | 46 => 117 | 51 => 145 | 146 => 146 | 53 => 148 | 148 => 149 | n => n, fun | n => n⟩
theorem Tryd.lays212 : Go.Proofs.Lays.n212 Tryd.prog Tryd.lays212_ren := {
  mixed := by kernel_rfl
  f212 := Tryd.func83.trans (congrArg some (by kernel_rfl))
  f263 := Tryd.func87.trans (congrArg some (by kernel_rfl))
  f264 := Tryd.func88.trans (congrArg some (by kernel_rfl))
  t46 := Tryd.underlying117
  a46 := Tryd.isAgg117
  z46 := Tryd.sizeOf117
  v46 := Tryd.zeroValue117
  t51 := Tryd.underlying145
  a51 := Tryd.isAgg145
  z51 := Tryd.sizeOf145
  v51 := Tryd.zeroValue145
  t53 := Tryd.underlying148
  a53 := Tryd.isAgg148
  z53 := Tryd.sizeOf148
  v53 := Tryd.zeroValue148
  t146 := Tryd.underlying146
  a146 := Tryd.isAgg146
  z146 := Tryd.sizeOf146
  v146 := Tryd.zeroValue146
  t148 := Tryd.underlying149
  a148 := Tryd.isAgg149
  z148 := Tryd.sizeOf149
  v148 := Tryd.zeroValue149 }
end Go.Proofs
end

section
set_option linter.unusedVariables false
set_option maxRecDepth 100000
set_option maxHeartbeats 4000000
set_option linter.unusedSimpArgs false
namespace Go.Proofs.YtplofbjppcbchaaDoor
open Go.AF
open Go.Proofs
theorem pow_laid : (0, Lib.pow10Tab.map (PV.int .u64)) ∈ laidG Tryd.prog := by
  have e : (laidG Tryd.prog)[2]? = some (0, Lib.pow10Tab.map (PV.int .u64)) := by kernel_rfl
  exact List.mem_of_getElem? e
theorem itoa_ok (n : Int) (h0 : 0 ≤ n) (h1 : n ≤ 1099511627776) : Pure Tryd.prog 53 [.int .i64 n] (.str (sB (Lib.itoa n))) :=
  Pure.ofGrow (us := [.int .i64 n]) (fun w I vs h => by
    obtain ⟨u, us, rfl, h2, h3⟩ := h
    have h2 : u = .int .i64 n := h2
    have h3 : us = [] := h3
    rw [h2, h3]) fun w I hg => (Any.strconv_Itoa Tryd.laysM171 n (by omega) (by omega) w (tab_of (g := 0) hg pow_laid (by kernel_rfl))).mono fun e w' ⟨h1, k, os, h2⟩ => ⟨_, h1, fun _ _ => rfl, k, os, h2⟩
end Go.Proofs.YtplofbjppcbchaaDoor
end

section
set_option linter.unusedVariables false
set_option maxRecDepth 100000
set_option maxHeartbeats 4000000
set_option linter.unusedSimpArgs false
namespace Go.Proofs.YtplofbjppcbchaaDoor
open Go.AF
def Prt.v : Prt → PV
  | .tx l => .iface 9 (.str (sB l))
  | .nu i => .iface 3 (.int .i64 i)
  | .sp s => .iface 31 (.agg s.cells)
def Prt.v1 (p : Prt) : List PV := [p.v]
def prtsV (l : List Prt) : PV := .is (l.flatMap Prt.v1) l.length
theorem ta_s (p : Prt) : taRel Tryd.prog 9 p.v (.tuple [.str (sB p.gS), .bool p.isS]) := by
  cases p with
  | tx l => exact ⟨_, _, rfl, .inl ⟨rfl, rfl⟩⟩
  | nu i => exact ⟨_, _, rfl, .inr ⟨rfl, _, zr9, rfl⟩⟩
  | sp s => exact ⟨_, _, rfl, .inr ⟨rfl, _, zr9, rfl⟩⟩
theorem ta_n (p : Prt) : taRel Tryd.prog 3 p.v (.tuple [.int .i64 p.gN, .bool p.isN]) := by
  cases p with
  | tx l => exact ⟨_, _, rfl, .inr ⟨rfl, _, zr3, rfl⟩⟩
  | nu i => exact ⟨_, _, rfl, .inl ⟨rfl, rfl⟩⟩
  | sp s => exact ⟨_, _, rfl, .inr ⟨rfl, _, zr3, rfl⟩⟩
theorem ta_p (p : Prt) : taRel Tryd.prog 31 p.v (.tuple [.agg p.gP.cells, .bool p.isP]) := by
  cases p with
  | tx l => exact ⟨_, _, rfl, .inr ⟨rfl, _, zr31, rfl⟩⟩
  | nu i => exact ⟨_, _, rfl, .inr ⟨rfl, _, zr31, rfl⟩⟩
  | sp s => exact ⟨_, _, rfl, .inl ⟨rfl, rfl⟩⟩
theorem put0_ok (l : Bs) (ps : List Prt) (hok : ∀ p ∈ ps, p.ok) (hns : ∀ p ∈ ps, p.isP = false) (hn : ps.length ≤ 1000) (hb : (l ++ prtsT ps).length ≤ 1099511627776) : ACallsW Tryd.prog 62 5 21 [prtsV ps] l ((prtsT ps)) (.tuple []) := by
  refine ACalls.start (N := 55) Tryd.func21 rfl rfl (Nat.le_of_ble_eq_true rfl) ?_
  refine AWp.seq ?_
  refine AWp.to (To.mvW 0 1 (by decide) rfl rfl) ?_
  show AWp _ _ _ _ _ _ _ [(wC 62 0 2 (l)), .dead, (wF 5 (l))]
  refine AWp.region ?_
  refine AList.c 9 rfl rfl rfl (OpJ.move rfl rfl) ?_
  refine AList.c 10 rfl rfl rfl (OpJ.lenSlice rfl rfl sl109 rfl) ?_
  refine AList.c 11 rfl rfl rfl (OpJ.move rfl rfl) ?_
  refine AList.nil ?_
  refine AWp.block ?_
  refine AWp.loopHL [0, 9, 10] (fun g => [(11, .p (.int .i64 ((g : Nat) : Int)))]) (fun g => [(wC 62 0 2 (l ++ prtsT (ps.take g))), .dead, (wF 5 (l ++ prtsT (ps.take g)))]) (fun g => g ≤ ps.length) (fun g => ps.length - g) 0 (Nat.zero_le _) (To.eqH (To.sub (Sub.chk (Sub.cons rfl Sub.nil))) (by show [(wC 62 0 2 (l)), .dead, (wF 5 (l))] = [(wC 62 0 2 (l ++ prtsT (ps.take 0))), .dead, (wF 5 (l ++ prtsT (ps.take 0)))]; rw [put_zero])) (fun i hg => ?_)
  refine AWp.seq ?_
  refine AWp.region ?_
  refine AList.c 12 rfl rfl rfl (OpJ.lss rfl rfl rfl) ?_
  refine AList.nil ?_
  refine AWp.seq ?_
  refine AWp.cond _ rfl (fun hc0 => ?_) (fun hc0 => ?_)
  · skip
    have hk0 : i < ps.length := by have h := of_decide_eq_true hc0; omega
    have hm : (gt Prt.d ps i) ∈ ps := gt_mem _ hk0
    have hst := put_step l ps i hk0
    have hbi := put_len l ps (i + 1) hb
    refine AWp.skip ?_
    refine AWp.seq ?_
    refine AWp.block ?_
    refine AWp.seq ?_
    refine AWp.region ?_
    refine AList.c 13 rfl rfl rfl (OpJ.indexG (g := gt Prt.d ps) (gt_get _) rfl rfl rfl sl109 el109 rfl (fun _ => rfl) (by decide) hk0) ?_
    refine AList.c 14 rfl rfl rfl (OpJ.load (v := .p (gt Prt.d ps i).v) rfl rfl ty20 rfl) ?_
    refine AList.c 5 rfl rfl rfl (OpJ.assign rfl rfl) ?_
    refine AList.nil ?_
    refine AWp.seq ?_
    refine AWp.region ?_
    refine AList.c 15 rfl rfl rfl (OpJ.move rfl rfl) ?_
    refine AList.nil ?_
    refine AWp.block ?_
    refine AWp.seq ?_
    refine AWp.region ?_
    refine AList.c 16 rfl rfl rfl (OpJ.taG rfl rfl con9 (ta_s _)) ?_
    refine AList.c 17 rfl rfl rfl (OpJ.extract rfl rfl rfl) ?_
    refine AList.c 18 rfl rfl rfl (OpJ.extract rfl rfl rfl) ?_
    refine AList.nil ?_
    refine AWp.cond _ rfl (fun hc1 => ?_) (fun hc1 => ?_)
    · skip
      refine AWp.seq ?_
      refine AWp.region ?_
      refine AList.c 6 rfl rfl rfl (OpJ.assign rfl rfl) ?_
      refine AList.nil ?_
      refine AWp.region ?_
      refine AList.c 19 rfl rfl rfl (OpJ.move rfl rfl) ?_
      refine AList.c 20 rfl rfl rfl (OpJ.nilCheck rfl rfl) ?_
      refine AList.c 21 rfl rfl rfl (OpJ.fieldAddr rfl rfl fd62_0 rfl) ?_
      refine AList.c 22 rfl rfl rfl (OpJ.move rfl rfl) ?_
      refine AList.callW 23 0 2 (wstr_ok _ _ (ok_s hc1 (hok _ hm)) (by rw [← t_s hc1, hst]; exact hbi)) (by decide) rfl rfl rfl rfl rfl rfl rfl rfl rfl rf52 ?_
      refine AList.nil ?_
      refine AWp.region ?_
      refine AList.c 54 rfl rfl rfl (OpJ.add rfl rfl rfl (i64ok ?_)) ?_
      · omega
      refine AList.c 11 rfl rfl rfl (OpJ.move rfl rfl) ?_
      refine AList.nil ?_
      refine ⟨i + 1, ?_, ?_, ?_⟩
      · exact hk0
      · omega
      exact To.done [0, 1, 3] rfl (by repeat (first | exact Sub.nil | refine Sub.cons rfl ?_)) (by show [renB _ (wC 62 0 3 _), renB _ .dead, renB _ (wF 5 _)] = [(wC 62 0 2 (l ++ prtsT (ps.take (i + 1)))), .dead, (wF 5 (l ++ prtsT (ps.take (i + 1))))]; rw [wC_ren (σ := pl [0, 1, 3]) (i := 0) (j := 3) (i' := 0) (j' := 2) rfl rfl, wF_ren, ← hst, t_s hc1]; rfl)
    · skip
      refine AWp.seq ?_
      refine AWp.region ?_
      refine AList.c 24 rfl rfl rfl (OpJ.taG rfl rfl con3 (ta_n _)) ?_
      refine AList.c 25 rfl rfl rfl (OpJ.extract rfl rfl rfl) ?_
      refine AList.c 26 rfl rfl rfl (OpJ.extract rfl rfl rfl) ?_
      refine AList.nil ?_
      refine AWp.cond _ rfl (fun hc2 => ?_) (fun hc2 => ?_)
      · skip
        refine AWp.seq ?_
        refine AWp.region ?_
        refine AList.c 7 rfl rfl rfl (OpJ.assign rfl rfl) ?_
        refine AList.nil ?_
        refine AWp.regionDraw 5 mixed (by kernel_rfl) (by decide) ?_
        refine AQuiet.cons 27 rfl rfl rfl (OpJ.move rfl rfl) ?_
        refine AQuiet.cons 28 rfl rfl rfl (OpJ.nilCheck rfl rfl) ?_
        refine AQuiet.cons 29 rfl rfl rfl (OpJ.fieldAddr rfl rfl fd62_0 rfl) ?_
        refine AQuiet.cons 30 rfl rfl rfl (OpJ.move rfl rfl) ?_
        refine AQuiet.cons 31 rfl rfl rfl (OpJ.callP (itoa_ok _ ?_ ?_) rfl rfl rfl rfl rf53) ?_
        · exact (ok_n hc2 (hok _ hm)).1
        · exact (ok_n hc2 (hok _ hm)).2
        refine AQuiet.nil ?_
        refine AList.callW 32 0 2 (wstr_ok _ _ (itoa_pos _) (by rw [← t_n hc2, hst]; exact hbi)) (by decide) rfl rfl rfl rfl rfl rfl rfl rfl rfl rf52 ?_
        refine AList.nil ?_
        refine AWp.region ?_
        refine AList.c 54 rfl rfl rfl (OpJ.add rfl rfl rfl (i64ok ?_)) ?_
        · omega
        refine AList.c 11 rfl rfl rfl (OpJ.move rfl rfl) ?_
        refine AList.nil ?_
        refine ⟨i + 1, ?_, ?_, ?_⟩
        · exact hk0
        · omega
        exact To.done [0, 1, 3] rfl (by repeat (first | exact Sub.nil | refine Sub.cons rfl ?_)) (by show [renB _ (wC 62 0 3 _), renB _ .dead, renB _ (wF 5 _)] = [(wC 62 0 2 (l ++ prtsT (ps.take (i + 1)))), .dead, (wF 5 (l ++ prtsT (ps.take (i + 1))))]; rw [wC_ren (σ := pl [0, 1, 3]) (i := 0) (j := 3) (i' := 0) (j' := 2) rfl rfl, wF_ren, ← hst, t_n hc2]; rfl)
      · skip
        refine AWp.seq ?_
        refine AWp.region ?_
        refine AList.c 33 rfl rfl rfl (OpJ.taG rfl rfl con31 (ta_p _)) ?_
        refine AList.c 34 rfl rfl rfl (OpJ.extract rfl rfl rfl) ?_
        refine AList.c 35 rfl rfl rfl (OpJ.extract rfl rfl rfl) ?_
        refine AList.nil ?_
        refine AWp.cond _ rfl (fun hc3 => ?_) (fun hc3 => ?_)
        · skip
          exfalso
          rw [hns _ hm] at hc3
          cases hc3
        · skip
          exfalso
          exact no_other _ hc1 hc2 hc3
  · skip
    refine AWp.exit ?_
    have hi : i = ps.length := by have h := of_decide_eq_false hc0; omega
    subst hi
    refine ⟨.inl rfl, _, resV.none_ rfl, rfl, ?_⟩
    rw [List.take_length]
theorem put_ok (l : Bs) (ps : List Prt) (hok : ∀ p ∈ ps, p.ok)  (hn : ps.length ≤ 1000) (hb : (l ++ prtsT ps).length ≤ 1099511627776) : ACallsW Tryd.prog 62 5 21 [prtsV ps] l ((prtsT ps)) (.tuple []) := by
  refine ACalls.start (N := 55) Tryd.func21 rfl rfl (Nat.le_of_ble_eq_true rfl) ?_
  refine AWp.seq ?_
  refine AWp.to (To.mvW 0 1 (by decide) rfl rfl) ?_
  show AWp _ _ _ _ _ _ _ [(wC 62 0 2 (l)), .dead, (wF 5 (l))]
  refine AWp.region ?_
  refine AList.c 9 rfl rfl rfl (OpJ.move rfl rfl) ?_
  refine AList.c 10 rfl rfl rfl (OpJ.lenSlice rfl rfl sl109 rfl) ?_
  refine AList.c 11 rfl rfl rfl (OpJ.move rfl rfl) ?_
  refine AList.nil ?_
  refine AWp.block ?_
  refine AWp.loopHL [0, 9, 10] (fun g => [(11, .p (.int .i64 ((g : Nat) : Int)))]) (fun g => [(wC 62 0 2 (l ++ prtsT (ps.take g))), .dead, (wF 5 (l ++ prtsT (ps.take g)))]) (fun g => g ≤ ps.length) (fun g => ps.length - g) 0 (Nat.zero_le _) (To.eqH (To.sub (Sub.chk (Sub.cons rfl Sub.nil))) (by show [(wC 62 0 2 (l)), .dead, (wF 5 (l))] = [(wC 62 0 2 (l ++ prtsT (ps.take 0))), .dead, (wF 5 (l ++ prtsT (ps.take 0)))]; rw [put_zero])) (fun i hg => ?_)
  refine AWp.seq ?_
  refine AWp.region ?_
  refine AList.c 12 rfl rfl rfl (OpJ.lss rfl rfl rfl) ?_
  refine AList.nil ?_
  refine AWp.seq ?_
  refine AWp.cond _ rfl (fun hc0 => ?_) (fun hc0 => ?_)
  · skip
    have hk0 : i < ps.length := by have h := of_decide_eq_true hc0; omega
    have hm : (gt Prt.d ps i) ∈ ps := gt_mem _ hk0
    have hst := put_step l ps i hk0
    have hbi := put_len l ps (i + 1) hb
    refine AWp.skip ?_
    refine AWp.seq ?_
    refine AWp.block ?_
    refine AWp.seq ?_
    refine AWp.region ?_
    refine AList.c 13 rfl rfl rfl (OpJ.indexG (g := gt Prt.d ps) (gt_get _) rfl rfl rfl sl109 el109 rfl (fun _ => rfl) (by decide) hk0) ?_
    refine AList.c 14 rfl rfl rfl (OpJ.load (v := .p (gt Prt.d ps i).v) rfl rfl ty20 rfl) ?_
    refine AList.c 5 rfl rfl rfl (OpJ.assign rfl rfl) ?_
    refine AList.nil ?_
    refine AWp.seq ?_
    refine AWp.region ?_
    refine AList.c 15 rfl rfl rfl (OpJ.move rfl rfl) ?_
    refine AList.nil ?_
    refine AWp.block ?_
    refine AWp.seq ?_
    refine AWp.region ?_
    refine AList.c 16 rfl rfl rfl (OpJ.taG rfl rfl con9 (ta_s _)) ?_
    refine AList.c 17 rfl rfl rfl (OpJ.extract rfl rfl rfl) ?_
    refine AList.c 18 rfl rfl rfl (OpJ.extract rfl rfl rfl) ?_
    refine AList.nil ?_
    refine AWp.cond _ rfl (fun hc1 => ?_) (fun hc1 => ?_)
    · skip
      refine AWp.seq ?_
      refine AWp.region ?_
      refine AList.c 6 rfl rfl rfl (OpJ.assign rfl rfl) ?_
      refine AList.nil ?_
      refine AWp.region ?_
      refine AList.c 19 rfl rfl rfl (OpJ.move rfl rfl) ?_
      refine AList.c 20 rfl rfl rfl (OpJ.nilCheck rfl rfl) ?_
      refine AList.c 21 rfl rfl rfl (OpJ.fieldAddr rfl rfl fd62_0 rfl) ?_
      refine AList.c 22 rfl rfl rfl (OpJ.move rfl rfl) ?_
      refine AList.callW 23 0 2 (wstr_ok _ _ (ok_s hc1 (hok _ hm)) (by rw [← t_s hc1, hst]; exact hbi)) (by decide) rfl rfl rfl rfl rfl rfl rfl rfl rfl rf52 ?_
      refine AList.nil ?_
      refine AWp.region ?_
      refine AList.c 54 rfl rfl rfl (OpJ.add rfl rfl rfl (i64ok ?_)) ?_
      · omega
      refine AList.c 11 rfl rfl rfl (OpJ.move rfl rfl) ?_
      refine AList.nil ?_
      refine ⟨i + 1, ?_, ?_, ?_⟩
      · exact hk0
      · omega
      exact To.done [0, 1, 3] rfl (by repeat (first | exact Sub.nil | refine Sub.cons rfl ?_)) (by show [renB _ (wC 62 0 3 _), renB _ .dead, renB _ (wF 5 _)] = [(wC 62 0 2 (l ++ prtsT (ps.take (i + 1)))), .dead, (wF 5 (l ++ prtsT (ps.take (i + 1))))]; rw [wC_ren (σ := pl [0, 1, 3]) (i := 0) (j := 3) (i' := 0) (j' := 2) rfl rfl, wF_ren, ← hst, t_s hc1]; rfl)
    · skip
      refine AWp.seq ?_
      refine AWp.region ?_
      refine AList.c 24 rfl rfl rfl (OpJ.taG rfl rfl con3 (ta_n _)) ?_
      refine AList.c 25 rfl rfl rfl (OpJ.extract rfl rfl rfl) ?_
      refine AList.c 26 rfl rfl rfl (OpJ.extract rfl rfl rfl) ?_
      refine AList.nil ?_
      refine AWp.cond _ rfl (fun hc2 => ?_) (fun hc2 => ?_)
      · skip
        refine AWp.seq ?_
        refine AWp.region ?_
        refine AList.c 7 rfl rfl rfl (OpJ.assign rfl rfl) ?_
        refine AList.nil ?_
        refine AWp.regionDraw 5 mixed (by kernel_rfl) (by decide) ?_
        refine AQuiet.cons 27 rfl rfl rfl (OpJ.move rfl rfl) ?_
        refine AQuiet.cons 28 rfl rfl rfl (OpJ.nilCheck rfl rfl) ?_
        refine AQuiet.cons 29 rfl rfl rfl (OpJ.fieldAddr rfl rfl fd62_0 rfl) ?_
        refine AQuiet.cons 30 rfl rfl rfl (OpJ.move rfl rfl) ?_
        refine AQuiet.cons 31 rfl rfl rfl (OpJ.callP (itoa_ok _ ?_ ?_) rfl rfl rfl rfl rf53) ?_
        · exact (ok_n hc2 (hok _ hm)).1
        · exact (ok_n hc2 (hok _ hm)).2
        refine AQuiet.nil ?_
        refine AList.callW 32 0 2 (wstr_ok _ _ (itoa_pos _) (by rw [← t_n hc2, hst]; exact hbi)) (by decide) rfl rfl rfl rfl rfl rfl rfl rfl rfl rf52 ?_
        refine AList.nil ?_
        refine AWp.region ?_
        refine AList.c 54 rfl rfl rfl (OpJ.add rfl rfl rfl (i64ok ?_)) ?_
        · omega
        refine AList.c 11 rfl rfl rfl (OpJ.move rfl rfl) ?_
        refine AList.nil ?_
        refine ⟨i + 1, ?_, ?_, ?_⟩
        · exact hk0
        · omega
        exact To.done [0, 1, 3] rfl (by repeat (first | exact Sub.nil | refine Sub.cons rfl ?_)) (by show [renB _ (wC 62 0 3 _), renB _ .dead, renB _ (wF 5 _)] = [(wC 62 0 2 (l ++ prtsT (ps.take (i + 1)))), .dead, (wF 5 (l ++ prtsT (ps.take (i + 1))))]; rw [wC_ren (σ := pl [0, 1, 3]) (i := 0) (j := 3) (i' := 0) (j' := 2) rfl rfl, wF_ren, ← hst, t_n hc2]; rfl)
      · skip
        refine AWp.seq ?_
        refine AWp.region ?_
        refine AList.c 33 rfl rfl rfl (OpJ.taG rfl rfl con31 (ta_p _)) ?_
        refine AList.c 34 rfl rfl rfl (OpJ.extract rfl rfl rfl) ?_
        refine AList.c 35 rfl rfl rfl (OpJ.extract rfl rfl rfl) ?_
        refine AList.nil ?_
        refine AWp.cond _ rfl (fun hc3 => ?_) (fun hc3 => ?_)
        · skip
          have et := t_p hc3
          have hop : 0 ≤ (gt Prt.d ps i).gP.lo ∧ (gt Prt.d ps i).gP.lo ≤ 1099511627776 ∧ 0 ≤ (gt Prt.d ps i).gP.hi ∧ (gt Prt.d ps i).gP.hi ≤ 1099511627776 := ok_p hc3 (hok _ hm)
          refine AWp.seq ?_
          refine AWp.region ?_
          refine AList.c 8 rfl rfl rfl (OpJ.allocOwn rfl zr31 rfl) ?_
          refine AList.c0 rfl rfl (OpJ.store rfl rfl rfl rfl rfl ty31 rfl rfl) ?_
          refine AList.nil ?_
          refine AWp.seq ?_
          refine AWp.region ?_
          refine AList.c 36 rfl rfl rfl (OpJ.move rfl rfl) ?_
          refine AList.c 37 rfl rfl rfl (OpJ.fieldAddr rfl rfl fd31_0 rfl) ?_
          refine AList.c 38 rfl rfl rfl (OpJ.load (v := .p (.int .i64 (gt Prt.d ps i).gP.lo)) rfl rfl ty3 rfl) ?_
          refine AList.c 39 rfl rfl rfl (OpJ.makeIface rfl rfl con3) ?_
          refine AList.c 40 rfl rfl rfl (OpJ.buildImm rfl slz109 (by decide) rfl rfl rfl) ?_
          refine AList.callW 41 0 2 (put0_ok _ [.nu (gt Prt.d ps i).gP.lo] (by intro q hq; rcases List.mem_singleton.1 hq with rfl; exact ⟨hop.1, hop.2.1⟩) (by intro q hq; rcases List.mem_singleton.1 hq with rfl; rfl) (by show 1 ≤ 1000; decide) (by rw [prts_one]; exact put_b1 et hst hbi)) (by decide) rfl rfl rfl rfl rfl rfl rfl rfl rfl rf21 ?_
          refine AList.nil ?_
          refine AWp.seq ?_
          refine AWp.region ?_
          refine AList.c 42 rfl rfl rfl (OpJ.fieldAddr rfl rfl fd31_1 rfl) ?_
          refine AList.c 43 rfl rfl rfl (OpJ.load (v := .p (.int .i64 (gt Prt.d ps i).gP.hi)) rfl rfl ty3 rfl) ?_
          refine AList.c 44 rfl rfl rfl (OpJ.fieldAddr rfl rfl fd31_0 rfl) ?_
          refine AList.c 45 rfl rfl rfl (OpJ.load (v := .p (.int .i64 (gt Prt.d ps i).gP.lo)) rfl rfl ty3 rfl) ?_
          refine AList.c 46 rfl rfl rfl (OpJ.neq rfl rfl rfl) ?_
          refine AList.nil ?_
          refine AWp.cond _ rfl (fun hc4 => ?_) (fun hc4 => ?_)
          · skip
            refine AWp.region ?_
            refine AList.c 47 rfl rfl rfl (OpJ.move rfl rfl) ?_
            refine AList.c 48 rfl rfl rfl (OpJ.makeIface rfl rfl con9) ?_
            refine AList.c 49 rfl rfl rfl (OpJ.fieldAddr rfl rfl fd31_1 rfl) ?_
            refine AList.c 50 rfl rfl rfl (OpJ.load (v := .p (.int .i64 (gt Prt.d ps i).gP.hi)) rfl rfl ty3 rfl) ?_
            refine AList.c 51 rfl rfl rfl (OpJ.makeIface rfl rfl con3) ?_
            refine AList.c 52 rfl rfl rfl (OpJ.buildImm rfl slz109 (by decide) rfl rfl rfl) ?_
            refine AList.callW 53 0 4 (put0_ok _ [.tx [46, 46], .nu (gt Prt.d ps i).gP.hi] (by intro q hq; simp only [List.mem_cons, List.not_mem_nil, or_false] at hq; rcases hq with rfl | rfl; exact Nat.succ_pos _; exact ⟨hop.2.2.1, hop.2.2.2⟩) (by intro q hq; simp only [List.mem_cons, List.not_mem_nil, or_false] at hq; rcases hq with rfl | rfl <;> rfl) (by show 2 ≤ 1000; decide) (by rw [prts_one, prts_dots, put_b2 et (by simpa using hc4) hst]; exact hbi)) (by decide) rfl rfl rfl rfl rfl rfl rfl rfl rfl rf21 ?_
            refine AList.nil ?_
            refine AWp.region ?_
            refine AList.c 54 rfl rfl rfl (OpJ.add rfl rfl rfl (i64ok ?_)) ?_
            · omega
            refine AList.c 11 rfl rfl rfl (OpJ.move rfl rfl) ?_
            refine AList.nil ?_
            refine ⟨i + 1, ?_, ?_, ?_⟩
            · exact hk0
            · omega
            exact To.done [0, 1, 5] rfl (by repeat (first | exact Sub.nil | refine Sub.cons rfl ?_)) (by show [renB _ (wC 62 0 5 _), renB _ .dead, renB _ (wF 5 _)] = [(wC 62 0 2 (l ++ prtsT (ps.take (i + 1)))), .dead, (wF 5 (l ++ prtsT (ps.take (i + 1))))]; rw [wC_ren (σ := pl [0, 1, 5]) (i := 0) (j := 5) (i' := 0) (j' := 2) rfl rfl, wF_ren, prts_one, prts_dots, put_b2 et (by simpa using hc4) hst]; rfl)
          · skip
            refine AWp.skip ?_
            refine AWp.region ?_
            refine AList.c 54 rfl rfl rfl (OpJ.add rfl rfl rfl (i64ok ?_)) ?_
            · omega
            refine AList.c 11 rfl rfl rfl (OpJ.move rfl rfl) ?_
            refine AList.nil ?_
            refine ⟨i + 1, ?_, ?_, ?_⟩
            · exact hk0
            · omega
            exact To.done [0, 1, 4] rfl (by repeat (first | exact Sub.nil | refine Sub.cons rfl ?_)) (by show [renB _ (wC 62 0 4 _), renB _ .dead, renB _ (wF 5 _)] = [(wC 62 0 2 (l ++ prtsT (ps.take (i + 1)))), .dead, (wF 5 (l ++ prtsT (ps.take (i + 1))))]; rw [wC_ren (σ := pl [0, 1, 4]) (i := 0) (j := 4) (i' := 0) (j' := 2) rfl rfl, wF_ren, prts_one, put_b3 et (by simpa using hc4) hst]; rfl)
        · skip
          exfalso
          exact no_other _ hc1 hc2 hc3
  · skip
    refine AWp.exit ?_
    have hi : i = ps.length := by have h := of_decide_eq_false hc0; omega
    subst hi
    refine ⟨.inl rfl, _, resV.none_ rfl, rfl, ?_⟩
    rw [List.take_length]
end Go.Proofs.YtplofbjppcbchaaDoor
end

section
set_option linter.unusedVariables false
set_option maxRecDepth 100000
set_option maxHeartbeats 4000000
set_option linter.unusedSimpArgs false
namespace Go.Proofs.YtplofbjppcbchaaDoor
open Go.AF
theorem within_ok (n lo hi : Int) : Pure Tryd.prog 57 [.int .i64 n, .int .i64 lo, .int .i64 hi] (.bool (inB n lo hi)) := by
  refine Pure.start (N := 15) Tryd.func57 rfl rfl (Nat.le_of_ble_eq_true rfl) ?_
  refine AWp.seq ?_
  refine AWp.region ?_
  refine AList.c 6 rfl rfl rfl (OpJ.assign rfl rfl) ?_
  refine AList.nil ?_
  refine AWp.seq ?_
  refine AWp.region ?_
  refine AList.c 7 rfl rfl rfl (OpJ.move rfl rfl) ?_
  refine AList.c 8 rfl rfl rfl (OpJ.move rfl rfl) ?_
  refine AList.c 9 rfl rfl rfl (OpJ.leq rfl rfl rfl) ?_
  refine AList.c 10 rfl rfl rfl (OpJ.move rfl rfl) ?_
  refine AList.g 11 10 rfl rfl rfl rfl rfl rfl rfl [(0, _)] (fun h => And.intro (.inl rfl) (trivial)) (fun h => (OpJ.move rfl rfl)) ?_
  refine AList.g 12 10 rfl rfl rfl rfl rfl rfl rfl [(2, _)] (fun h => And.intro (.inl rfl) (trivial)) (fun h => (OpJ.move rfl rfl)) ?_
  refine AList.g 13 10 rfl rfl rfl rfl rfl rfl rfl [(11, _), (12, _)] (fun h => And.intro (.inr ⟨_, rfl, h⟩) (And.intro (.inr ⟨_, rfl, h⟩) (trivial))) (fun h => (OpJ.leq rfl rfl rfl)) ?_
  refine AList.c 14 rfl rfl rfl (OpJ.and_ rfl rfl rfl ?_) ?_
  · first | (intro h; rw [h]; rfl) | (intro h; simp_all)
  refine AList.c 6 rfl rfl rfl (OpJ.assign rfl rfl) ?_
  refine AList.nil ?_
  refine AWp.ret ?_
  exact Fin.one rfl (rfl)
theorem isSpan_ok (s : Spn) (lo hi : Int) : Pure Tryd.prog 47 [.agg s.cells, .int .i64 lo, .int .i64 hi] (.bool (spnB s lo hi)) := by
  refine Pure.start (N := 24) Tryd.func47 rfl rfl (Nat.le_of_ble_eq_true rfl) ?_
  refine AWp.seq ?_
  refine AWp.region ?_
  refine AList.c 3 rfl rfl rfl (OpJ.boxImm rfl rfl rfl) ?_
  refine AList.c 6 rfl rfl rfl (OpJ.assign rfl rfl) ?_
  refine AList.nil ?_
  refine AWp.seq ?_
  refine AWp.region ?_
  refine AList.c 7 rfl rfl rfl (OpJ.move rfl rfl) ?_
  refine AList.c 8 rfl rfl rfl (OpJ.fieldAddr rfl rfl fd31_0 rfl) ?_
  refine AList.c 9 rfl rfl rfl (OpJ.load (v := .p (.int .i64 s.lo)) rfl rfl ty3 rfl) ?_
  refine AList.c 10 rfl rfl rfl (OpJ.leq rfl rfl rfl) ?_
  refine AList.c 11 rfl rfl rfl (OpJ.move rfl rfl) ?_
  refine AList.g 12 11 rfl rfl rfl rfl rfl rfl rfl [(3, _)] (fun h => And.intro (.inl rfl) (trivial)) (fun h => (OpJ.fieldAddr rfl rfl fd31_0 rfl)) ?_
  refine AList.g 13 11 rfl rfl rfl rfl rfl rfl rfl [(12, _)] (fun h => And.intro (.inr ⟨_, rfl, h⟩) (trivial)) (fun h => (OpJ.load (v := .p (.int .i64 s.lo)) rfl rfl ty3 rfl)) ?_
  refine AList.g 14 11 rfl rfl rfl rfl rfl rfl rfl [(3, _)] (fun h => And.intro (.inl rfl) (trivial)) (fun h => (OpJ.fieldAddr rfl rfl fd31_1 rfl)) ?_
  refine AList.g 15 11 rfl rfl rfl rfl rfl rfl rfl [(14, _)] (fun h => And.intro (.inr ⟨_, rfl, h⟩) (trivial)) (fun h => (OpJ.load (v := .p (.int .i64 s.hi)) rfl rfl ty3 rfl)) ?_
  refine AList.g 16 11 rfl rfl rfl rfl rfl rfl rfl [(13, _), (15, _)] (fun h => And.intro (.inr ⟨_, rfl, h⟩) (And.intro (.inr ⟨_, rfl, h⟩) (trivial))) (fun h => (OpJ.leq rfl rfl rfl)) ?_
  refine AList.c 17 rfl rfl rfl (OpJ.and_ rfl rfl rfl ?_) ?_
  · first | (intro h; rw [h]; rfl) | (intro h; simp_all)
  refine AList.c 18 rfl rfl rfl (OpJ.move rfl rfl) ?_
  refine AList.g 19 18 rfl rfl rfl rfl rfl rfl rfl [(3, _)] (fun h => And.intro (.inl rfl) (trivial)) (fun h => (OpJ.fieldAddr rfl rfl fd31_1 rfl)) ?_
  refine AList.g 20 18 rfl rfl rfl rfl rfl rfl rfl [(19, _)] (fun h => And.intro (.inr ⟨_, rfl, h⟩) (trivial)) (fun h => (OpJ.load (v := .p (.int .i64 s.hi)) rfl rfl ty3 rfl)) ?_
  refine AList.g 21 18 rfl rfl rfl rfl rfl rfl rfl [(2, _)] (fun h => And.intro (.inl rfl) (trivial)) (fun h => (OpJ.move rfl rfl)) ?_
  refine AList.g 22 18 rfl rfl rfl rfl rfl rfl rfl [(20, _), (21, _)] (fun h => And.intro (.inr ⟨_, rfl, h⟩) (And.intro (.inr ⟨_, rfl, h⟩) (trivial))) (fun h => (OpJ.leq rfl rfl rfl)) ?_
  refine AList.c 23 rfl rfl rfl (OpJ.and_ rfl rfl rfl ?_) ?_
  · first | (intro h; rw [h]; rfl) | (intro h; simp_all)
  refine AList.c 6 rfl rfl rfl (OpJ.assign rfl rfl) ?_
  refine AList.nil ?_
  refine AWp.ret ?_
  exact Fin.one rfl (rfl)
theorem check_ok (many most : Int) (valid : Bool) : Pure Tryd.prog 19 [.int .i64 many, .int .i64 most, .bool valid] (.int .i64 (chkN many most valid)) := by
  refine Pure.start (N := 14) Tryd.func19 rfl rfl (Nat.le_of_ble_eq_true rfl) ?_
  refine AWp.seq ?_
  refine AWp.region ?_
  refine AList.c 6 rfl rfl rfl (OpJ.assign rfl rfl) ?_
  refine AList.nil ?_
  refine AWp.seq ?_
  refine AWp.block ?_
  refine AWp.seq ?_
  refine AWp.region ?_
  refine AList.c 8 rfl rfl rfl (OpJ.move rfl rfl) ?_
  refine AList.c 9 rfl rfl rfl (OpJ.move rfl rfl) ?_
  refine AList.c 10 rfl rfl rfl (OpJ.gtr rfl rfl rfl) ?_
  refine AList.c 7 rfl rfl rfl (OpJ.assign rfl rfl) ?_
  refine AList.nil ?_
  refine AWp.cond _ rfl (fun hc0 => ?_) (fun hc0 => ?_)
  · skip
    refine AWp.seq ?_
    refine AWp.region ?_
    refine AList.c 6 rfl rfl rfl (OpJ.assign rfl rfl) ?_
    refine AList.nil ?_
    refine AWp.ret ?_
    refine Fin.oneE rfl rfl ?_
    have h := of_decide_eq_true hc0
    unfold chkN
    rw [if_pos h]
  · skip
    refine AWp.seq ?_
    refine AWp.region ?_
    refine AList.c 12 rfl rfl rfl (OpJ.move rfl rfl) ?_
    refine AList.c 13 rfl rfl rfl (OpJ.not_ rfl rfl) ?_
    refine AList.c 11 rfl rfl rfl (OpJ.assign rfl rfl) ?_
    refine AList.nil ?_
    refine AWp.cond _ rfl (fun hc1 => ?_) (fun hc1 => ?_)
    · skip
      refine AWp.seq ?_
      refine AWp.region ?_
      refine AList.c 6 rfl rfl rfl (OpJ.assign rfl rfl) ?_
      refine AList.nil ?_
      refine AWp.ret ?_
      refine Fin.oneE rfl rfl ?_
      have h := of_decide_eq_false hc0
      unfold chkN
      rw [if_neg h]
      cases valid
      · rfl
      · cases hc1
    · skip
      refine AWp.skip ?_
      refine AWp.seq ?_
      refine AWp.region ?_
      refine AList.c 6 rfl rfl rfl (OpJ.assign rfl rfl) ?_
      refine AList.nil ?_
      refine AWp.ret ?_
      refine Fin.oneE rfl rfl ?_
      have h := of_decide_eq_false hc0
      unfold chkN
      rw [if_neg h]
      cases valid
      · cases hc1
      · rfl
theorem ar1_ok (s : Stk) : Pure Tryd.prog 46 [.agg s.cells] (.bool (stkN s)) := by
  refine Pure.start (N := 13) Tryd.func46 rfl rfl (Nat.le_of_ble_eq_true rfl) ?_
  refine AWp.seq ?_
  refine AWp.region ?_
  refine AList.c 1 rfl rfl rfl (OpJ.boxImm rfl rfl rfl) ?_
  refine AList.c 2 rfl rfl rfl (OpJ.assign rfl rfl) ?_
  refine AList.nil ?_
  refine AWp.seq ?_
  refine AWp.region ?_
  refine AList.c 3 rfl rfl rfl (OpJ.fieldAddr rfl rfl fd65_0 rfl) ?_
  refine AList.c 4 rfl rfl rfl (OpJ.load (v := .p (.agg s.read.cells)) rfl rfl ty31 rfl) ?_
  refine AList.c 5 rfl rfl rfl (OpJ.callP (isSpan_ok _ _ _) rfl rfl rfl rfl rf47) ?_
  refine AList.c 6 rfl rfl rfl (OpJ.not_ rfl rfl) ?_
  refine AList.c 7 rfl rfl rfl (OpJ.move rfl rfl) ?_
  refine AList.g 8 7 rfl rfl rfl rfl rfl rfl rfl [(1, _)] (fun h => And.intro (.inl rfl) (trivial)) (fun h => (OpJ.fieldAddr rfl rfl fd65_1 rfl)) ?_
  refine AList.g 9 7 rfl rfl rfl rfl rfl rfl rfl [(8, _)] (fun h => And.intro (.inr ⟨_, rfl, h⟩) (trivial)) (fun h => (OpJ.load (v := .p (.agg s.paper.cells)) rfl rfl ty31 rfl)) ?_
  refine AList.g 10 7 rfl rfl rfl rfl rfl rfl rfl [(9, _)] (fun h => And.intro (.inr ⟨_, rfl, h⟩) (trivial)) (fun h => (OpJ.callP (isSpan_ok _ _ _) rfl rfl rfl rfl rf47)) ?_
  refine AList.g 11 7 rfl rfl rfl rfl rfl rfl rfl [(10, _)] (fun h => And.intro (.inr ⟨_, rfl, h⟩) (trivial)) (fun h => (OpJ.not_ rfl rfl)) ?_
  refine AList.c 12 rfl rfl rfl (OpJ.or_ rfl rfl rfl ?_) ?_
  · first | (intro h; rw [h]; rfl) | (intro h; simp_all)
  refine AList.c 2 rfl rfl rfl (OpJ.assign rfl rfl) ?_
  refine AList.nil ?_
  refine AWp.ret ?_
  exact Fin.one rfl (rfl)
theorem indexSt_ok (xs : List Stk) (f : PV) (p : Stk → Bool) (hx : xs.length ≤ bigN) (hf : ∀ x ∈ xs, FPure Tryd.prog f [.agg x.cells] (.bool (p x))) : Pure Tryd.prog 79 [.is (xs.flatMap Stk.cells) xs.length, f] (.int .i64 (idxF p xs)) := by
  unfold bigN at hx
  refine Pure.start (N := 19) Tryd.func79 rfl rfl (Nat.le_of_ble_eq_true rfl) ?_
  refine AWp.seq ?_
  refine AWp.region ?_
  refine AList.c 4 rfl rfl rfl (OpJ.assign rfl rfl) ?_
  refine AList.nil ?_
  refine AWp.seq ?_
  refine AWp.seq ?_
  refine AWp.region ?_
  refine AList.c 6 rfl rfl rfl (OpJ.move rfl rfl) ?_
  refine AList.c 7 rfl rfl rfl (OpJ.lenSlice rfl rfl sl29 rfl) ?_
  refine AList.c 8 rfl rfl rfl (OpJ.move rfl rfl) ?_
  refine AList.nil ?_
  refine AWp.block ?_
  refine AWp.loopK [4, 5, 8, 9, 10, 11, 12, 13, 14, 15, 16, 17, 18] (fun g => [(8, .p (.int .i64 ((g : Nat) : Int)))]) (fun g => g ≤ xs.length ∧ ∀ j (hj : j < g) (h : g ≤ xs.length), p (xs[j]'(by omega)) = false) (fun g => xs.length - g) 0 ⟨Nat.zero_le _, fun j hj => absurd hj (by omega)⟩ (Sub.cons rfl (Sub.nil)) (fun i hg => ?_)
  obtain ⟨hg1, hg2⟩ := hg
  refine AWp.seq ?_
  refine AWp.region ?_
  refine AList.c 9 rfl rfl rfl (OpJ.lss rfl rfl rfl) ?_
  refine AList.nil ?_
  refine AWp.seq ?_
  refine AWp.cond _ rfl (fun hc0 => ?_) (fun hc0 => ?_)
  · skip
    refine AWp.skip ?_
    refine AWp.seq ?_
    refine AWp.block ?_
    refine AWp.seq ?_
    refine AWp.region ?_
    refine AList.c 10 rfl rfl rfl (OpJ.move rfl rfl) ?_
    refine AList.c 5 rfl rfl rfl (OpJ.assign rfl rfl) ?_
    refine AList.nil ?_
    refine AWp.seq ?_
    refine AWp.region ?_
    refine AList.c 11 rfl rfl rfl (OpJ.move rfl rfl) ?_
    refine AList.c 12 rfl rfl rfl (OpJ.move rfl rfl) ?_
    refine AList.c 13 rfl rfl rfl (OpJ.move rfl rfl) ?_
    refine AList.c 14 rfl rfl rfl (OpJ.indexEl rfl rfl rfl sl29 el29 rfl (fun _ => rfl) (by decide) ?_) ?_
    · simp at hc0; omega
    refine AList.c 15 rfl rfl rfl (OpJ.load rfl rfl ty65 rfl) ?_
    refine AList.c 16 rfl rfl rfl (OpJ.callF (hf _ (List.getElem_mem _)) rfl rfl rfl) ?_
    refine AList.nil ?_
    refine AWp.cond _ rfl (fun hc1 => ?_) (fun hc1 => ?_)
    · skip
      refine AWp.seq ?_
      refine AWp.region ?_
      refine AList.c 17 rfl rfl rfl (OpJ.move rfl rfl) ?_
      refine AList.c 4 rfl rfl rfl (OpJ.assign rfl rfl) ?_
      refine AList.nil ?_
      refine AWp.ret ?_
      refine Fin.oneE rfl rfl ?_
      rw [idxF_at p xs i (by simp at hc0; omega) (fun j hj => hg2 j hj hg1) hc1]
    · skip
      refine AWp.skip ?_
      refine AWp.region ?_
      refine AList.c 18 rfl rfl rfl (OpJ.add rfl rfl rfl (i64ok ?_)) ?_
      · simp at hc0; omega
      refine AList.c 8 rfl rfl rfl (OpJ.move rfl rfl) ?_
      refine AList.nil ?_
      refine ⟨i + 1, ?_, ?_, ?_⟩
      · refine ⟨by simp at hc0; omega, fun j hj h => ?_⟩
        rcases Nat.lt_succ_iff_lt_or_eq.1 hj with h1 | rfl
        · exact hg2 j h1 hg1
        · exact hc1
      · simp at hc0; omega
      exact To.done [] rfl (by repeat (first | exact Sub.nil | refine Sub.cons rfl ?_)) rfl
  · skip
    refine AWp.exit ?_
    refine AWp.seq ?_
    refine AWp.region ?_
    refine AList.c 4 rfl rfl rfl (OpJ.assign rfl rfl) ?_
    refine AList.nil ?_
    refine AWp.ret ?_
    refine Fin.oneE rfl rfl ?_
    rw [idxF_none p xs (fun j hj => hg2 j (by simp at hc0; omega) hg1)]
theorem containsSt_ok (xs : List Stk) (f : PV) (p : Stk → Bool) (hx : xs.length ≤ bigN) (hf : ∀ x ∈ xs, FPure Tryd.prog f [.agg x.cells] (.bool (p x))) : Pure Tryd.prog 51 [.is (xs.flatMap Stk.cells) xs.length, f] (.bool (xs.any p)) := by
  refine Pure.start (N := 9) Tryd.func51 rfl rfl (Nat.le_of_ble_eq_true rfl) ?_
  refine AWp.seq ?_
  refine AWp.region ?_
  refine AList.c 4 rfl rfl rfl (OpJ.assign rfl rfl) ?_
  refine AList.nil ?_
  refine AWp.seq ?_
  refine AWp.region ?_
  refine AList.c 5 rfl rfl rfl (OpJ.move rfl rfl) ?_
  refine AList.c 6 rfl rfl rfl (OpJ.move rfl rfl) ?_
  refine AList.c 7 rfl rfl rfl (OpJ.callP (indexSt_ok _ _ p ?_ ?_) rfl rfl rfl rfl rf79) ?_
  · exact hx
  · exact hf
  refine AList.c 8 rfl rfl rfl (OpJ.geq rfl rfl rfl) ?_
  refine AList.c 4 rfl rfl rfl (OpJ.assign rfl rfl) ?_
  refine AList.nil ?_
  refine AWp.ret ?_
  refine Fin.oneE rfl rfl ?_
  rw [idxF_any]
theorem riseRpt_ok (l : List Rpt) (fn fr : PV) (num : Rpt → Int) (right : Rpt → Bool) (hl : l.length ≤ bigN) (hn : ∀ x ∈ l, FPure Tryd.prog fn [.agg x.cells] (.int .i64 (num x))) (hr : ∀ x ∈ l, FPure Tryd.prog fr [.agg x.cells] (.bool (right x))) : Pure Tryd.prog 48 [.is (l.flatMap Rpt.cells) l.length, fn, fr] (.bool (riseB num right (-1) l)) := by
  have hl2 := hl
  unfold bigN at hl2
  refine Pure.start (N := 33) Tryd.func48 rfl rfl (Nat.le_of_ble_eq_true rfl) ?_
  refine AWp.seq ?_
  refine AWp.region ?_
  refine AList.c 6 rfl rfl rfl (OpJ.assign rfl rfl) ?_
  refine AList.nil ?_
  refine AWp.seq ?_
  refine AWp.region ?_
  refine AList.c 7 rfl rfl rfl (OpJ.assign rfl rfl) ?_
  refine AList.nil ?_
  refine AWp.seq ?_
  refine AWp.seq ?_
  refine AWp.region ?_
  refine AList.c 11 rfl rfl rfl (OpJ.move rfl rfl) ?_
  refine AList.c 12 rfl rfl rfl (OpJ.lenSlice rfl rfl sl22 rfl) ?_
  refine AList.c 13 rfl rfl rfl (OpJ.move rfl rfl) ?_
  refine AList.nil ?_
  refine AWp.block ?_
  refine AWp.loopHL [1, 2, 11, 12] (fun g => [(13, .p (.int .i64 ((g : Nat) : Int))), (7, .p (.int .i64 (lastR num Rpt.d l g)))]) (fun g => []) (fun g => g ≤ l.length ∧ riseB num right (-1) l = riseB num right (lastR num Rpt.d l g) (l.drop g) ∧ -1 ≤ lastR num Rpt.d l g ∧ lastR num Rpt.d l g ≤ 1000000) (fun g => l.length - g) 0 ⟨Nat.zero_le _, rfl, (by show (-1 : Int) ≤ -1; decide), (by show (-1 : Int) ≤ 1000000; decide)⟩ (To.sub (Sub.chk (Sub.cons rfl (Sub.cons rfl (Sub.nil))))) (fun i ⟨hg1, hg2, hg3, hg4⟩ => ?_)
  refine AWp.seq ?_
  refine AWp.region ?_
  refine AList.c 14 rfl rfl rfl (OpJ.lss rfl rfl rfl) ?_
  refine AList.nil ?_
  refine AWp.seq ?_
  refine AWp.cond _ rfl (fun hc0 => ?_) (fun hc0 => ?_)
  · skip
    have hk0 : i < l.length := by have h := of_decide_eq_true hc0; omega
    refine AWp.skip ?_
    refine AWp.seq ?_
    refine AWp.block ?_
    refine AWp.seq ?_
    refine AWp.region ?_
    refine AList.c 15 rfl rfl rfl (OpJ.indexG (g := gt Rpt.d l) (gt_get _) rfl rfl rfl sl22 el22 rfl (fun _ => rfl) (by decide) hk0) ?_
    refine AList.c 16 rfl rfl rfl (OpJ.load (v := .p (.agg (gt Rpt.d l i).cells)) rfl rfl ty33 rfl) ?_
    refine AList.c 9 rfl rfl rfl (OpJ.allocOwn rfl zr33 rfl) ?_
    refine AList.c0 rfl rfl (OpJ.store rfl rfl rfl rfl rfl ty33 rfl rfl) ?_
    refine AList.nil ?_
    refine AWp.seq ?_
    refine AWp.region ?_
    refine AList.c 17 rfl rfl rfl (OpJ.move rfl rfl) ?_
    refine AList.c 18 rfl rfl rfl (OpJ.load (v := .p (.agg (gt Rpt.d l i).cells)) rfl rfl ty33 rfl) ?_
    refine AList.c 19 rfl rfl rfl (OpJ.callF (hn _ (gt_mem _ hk0)) rfl rfl rfl) ?_
    refine AList.c 10 rfl rfl rfl (OpJ.assign rfl rfl) ?_
    refine AList.nil ?_
    refine AWp.seq ?_
    refine AWp.seq ?_
    refine AWp.region ?_
    refine AList.c 20 rfl rfl rfl (OpJ.move rfl rfl) ?_
    refine AList.c 21 rfl rfl rfl (OpJ.move rfl rfl) ?_
    refine AList.c 22 rfl rfl rfl (OpJ.add rfl rfl rfl (i64ok ?_)) ?_
    · omega
    refine AList.c 23 rfl rfl rfl (OpJ.callP (within_ok _ _ _) rfl rfl rfl rfl rf57) ?_
    refine AList.c 24 rfl rfl rfl (OpJ.not_ rfl rfl) ?_
    refine AList.c 25 rfl rfl rfl (OpJ.move rfl rfl) ?_
    refine AList.g 26 25 rfl rfl rfl rfl rfl rfl rfl [(2, _)] (fun h => And.intro (.inl rfl) (trivial)) (fun h => (OpJ.move rfl rfl)) ?_
    refine AList.g 27 25 rfl rfl rfl rfl rfl rfl rfl [(9, _)] (fun h => And.intro (.inl rfl) (trivial)) (fun h => (OpJ.load (v := .p (.agg (gt Rpt.d l i).cells)) rfl rfl ty33 rfl)) ?_
    refine AList.g 28 25 rfl rfl rfl rfl rfl rfl rfl [(26, _), (27, _)] (fun h => And.intro (.inr ⟨_, rfl, h⟩) (And.intro (.inr ⟨_, rfl, h⟩) (trivial))) (fun h => (OpJ.callF (hr _ (gt_mem _ hk0)) rfl rfl rfl)) ?_
    refine AList.g 29 25 rfl rfl rfl rfl rfl rfl rfl [(28, _)] (fun h => And.intro (.inr ⟨_, rfl, h⟩) (trivial)) (fun h => (OpJ.not_ rfl rfl)) ?_
    refine AList.c 30 rfl rfl rfl (OpJ.or_ rfl rfl rfl ?_) ?_
    · first | (intro h; rw [h]; rfl) | (intro h; simp_all)
    refine AList.nil ?_
    refine AWp.cond _ rfl (fun hc1 => ?_) (fun hc1 => ?_)
    · skip
      refine AWp.seq ?_
      refine AWp.region ?_
      refine AList.c 6 rfl rfl rfl (OpJ.assign rfl rfl) ?_
      refine AList.nil ?_
      refine AWp.ret ?_
      refine Fin.oneE rfl rfl ?_
      rw [hg2, rise_step num right _ Rpt.d l i hk0]
      congr 1
      simp only [Bool.or_eq_true, Bool.not_eq_true'] at hc1
      rcases hc1 with h | h
      · rw [h]; rfl
      · rw [h, Bool.and_false]; rfl
    · skip
      refine AWp.skip ?_
      refine AWp.region ?_
      refine AList.c 31 rfl rfl rfl (OpJ.move rfl rfl) ?_
      refine AList.c 7 rfl rfl rfl (OpJ.assign rfl rfl) ?_
      refine AList.nil ?_
      refine AWp.region ?_
      refine AList.c 32 rfl rfl rfl (OpJ.add rfl rfl rfl (i64ok ?_)) ?_
      · omega
      refine AList.c 13 rfl rfl rfl (OpJ.move rfl rfl) ?_
      refine AList.nil ?_
      refine ⟨i + 1, ?_, ?_, ?_⟩
      · have hq := hc1
        simp only [Bool.or_eq_false_iff, Bool.not_eq_false'] at hq
        have hi2 := hq.1
        simp only [inB, Bool.and_eq_true, decide_eq_true_eq] at hi2
        exact ⟨hk0, by rw [hg2, rise_step num right _ Rpt.d l i hk0, hq.1, hq.2]; rfl, by show -1 ≤ num (gt Rpt.d l i); omega, hi2.2⟩
      · omega
      exact To.done [] rfl (by repeat (first | exact Sub.nil | refine Sub.cons rfl ?_)) rfl
  · skip
    have hi : i = l.length := by have h := of_decide_eq_false hc0; omega
    refine AWp.exit ?_
    refine AWp.seq ?_
    refine AWp.region ?_
    refine AList.c 6 rfl rfl rfl (OpJ.assign rfl rfl) ?_
    refine AList.nil ?_
    refine AWp.ret ?_
    refine Fin.oneE rfl rfl ?_
    rw [hg2, hi, List.drop_length]
    rfl
theorem riseCrd_ok (l : List Crd) (fn fr : PV) (num : Crd → Int) (right : Crd → Bool) (hl : l.length ≤ bigN) (hn : ∀ x ∈ l, FPure Tryd.prog fn [.agg x.cells] (.int .i64 (num x))) (hr : ∀ x ∈ l, FPure Tryd.prog fr [.agg x.cells] (.bool (right x))) : Pure Tryd.prog 54 [.is (l.flatMap Crd.cells) l.length, fn, fr] (.bool (riseB num right (-1) l)) := by
  have hl2 := hl
  unfold bigN at hl2
  refine Pure.start (N := 33) Tryd.func54 rfl rfl (Nat.le_of_ble_eq_true rfl) ?_
  refine AWp.seq ?_
  refine AWp.region ?_
  refine AList.c 6 rfl rfl rfl (OpJ.assign rfl rfl) ?_
  refine AList.nil ?_
  refine AWp.seq ?_
  refine AWp.region ?_
  refine AList.c 7 rfl rfl rfl (OpJ.assign rfl rfl) ?_
  refine AList.nil ?_
  refine AWp.seq ?_
  refine AWp.seq ?_
  refine AWp.region ?_
  refine AList.c 11 rfl rfl rfl (OpJ.move rfl rfl) ?_
  refine AList.c 12 rfl rfl rfl (OpJ.lenSlice rfl rfl sl23 rfl) ?_
  refine AList.c 13 rfl rfl rfl (OpJ.move rfl rfl) ?_
  refine AList.nil ?_
  refine AWp.block ?_
  refine AWp.loopHL [1, 2, 11, 12] (fun g => [(13, .p (.int .i64 ((g : Nat) : Int))), (7, .p (.int .i64 (lastR num Crd.d l g)))]) (fun g => []) (fun g => g ≤ l.length ∧ riseB num right (-1) l = riseB num right (lastR num Crd.d l g) (l.drop g) ∧ -1 ≤ lastR num Crd.d l g ∧ lastR num Crd.d l g ≤ 1000000) (fun g => l.length - g) 0 ⟨Nat.zero_le _, rfl, (by show (-1 : Int) ≤ -1; decide), (by show (-1 : Int) ≤ 1000000; decide)⟩ (To.sub (Sub.chk (Sub.cons rfl (Sub.cons rfl (Sub.nil))))) (fun i ⟨hg1, hg2, hg3, hg4⟩ => ?_)
  refine AWp.seq ?_
  refine AWp.region ?_
  refine AList.c 14 rfl rfl rfl (OpJ.lss rfl rfl rfl) ?_
  refine AList.nil ?_
  refine AWp.seq ?_
  refine AWp.cond _ rfl (fun hc0 => ?_) (fun hc0 => ?_)
  · skip
    have hk0 : i < l.length := by have h := of_decide_eq_true hc0; omega
    refine AWp.skip ?_
    refine AWp.seq ?_
    refine AWp.block ?_
    refine AWp.seq ?_
    refine AWp.region ?_
    refine AList.c 15 rfl rfl rfl (OpJ.indexG (g := gt Crd.d l) (gt_get _) rfl rfl rfl sl23 el23 rfl (fun _ => rfl) (by decide) hk0) ?_
    refine AList.c 16 rfl rfl rfl (OpJ.load (v := .p (.agg (gt Crd.d l i).cells)) rfl rfl ty76 rfl) ?_
    refine AList.c 9 rfl rfl rfl (OpJ.allocOwn rfl zr76 rfl) ?_
    refine AList.c0 rfl rfl (OpJ.store rfl rfl rfl rfl rfl ty76 rfl rfl) ?_
    refine AList.nil ?_
    refine AWp.seq ?_
    refine AWp.region ?_
    refine AList.c 17 rfl rfl rfl (OpJ.move rfl rfl) ?_
    refine AList.c 18 rfl rfl rfl (OpJ.load (v := .p (.agg (gt Crd.d l i).cells)) rfl rfl ty76 rfl) ?_
    refine AList.c 19 rfl rfl rfl (OpJ.callF (hn _ (gt_mem _ hk0)) rfl rfl rfl) ?_
    refine AList.c 10 rfl rfl rfl (OpJ.assign rfl rfl) ?_
    refine AList.nil ?_
    refine AWp.seq ?_
    refine AWp.seq ?_
    refine AWp.region ?_
    refine AList.c 20 rfl rfl rfl (OpJ.move rfl rfl) ?_
    refine AList.c 21 rfl rfl rfl (OpJ.move rfl rfl) ?_
    refine AList.c 22 rfl rfl rfl (OpJ.add rfl rfl rfl (i64ok ?_)) ?_
    · omega
    refine AList.c 23 rfl rfl rfl (OpJ.callP (within_ok _ _ _) rfl rfl rfl rfl rf57) ?_
    refine AList.c 24 rfl rfl rfl (OpJ.not_ rfl rfl) ?_
    refine AList.c 25 rfl rfl rfl (OpJ.move rfl rfl) ?_
    refine AList.g 26 25 rfl rfl rfl rfl rfl rfl rfl [(2, _)] (fun h => And.intro (.inl rfl) (trivial)) (fun h => (OpJ.move rfl rfl)) ?_
    refine AList.g 27 25 rfl rfl rfl rfl rfl rfl rfl [(9, _)] (fun h => And.intro (.inl rfl) (trivial)) (fun h => (OpJ.load (v := .p (.agg (gt Crd.d l i).cells)) rfl rfl ty76 rfl)) ?_
    refine AList.g 28 25 rfl rfl rfl rfl rfl rfl rfl [(26, _), (27, _)] (fun h => And.intro (.inr ⟨_, rfl, h⟩) (And.intro (.inr ⟨_, rfl, h⟩) (trivial))) (fun h => (OpJ.callF (hr _ (gt_mem _ hk0)) rfl rfl rfl)) ?_
    refine AList.g 29 25 rfl rfl rfl rfl rfl rfl rfl [(28, _)] (fun h => And.intro (.inr ⟨_, rfl, h⟩) (trivial)) (fun h => (OpJ.not_ rfl rfl)) ?_
    refine AList.c 30 rfl rfl rfl (OpJ.or_ rfl rfl rfl ?_) ?_
    · first | (intro h; rw [h]; rfl) | (intro h; simp_all)
    refine AList.nil ?_
    refine AWp.cond _ rfl (fun hc1 => ?_) (fun hc1 => ?_)
    · skip
      refine AWp.seq ?_
      refine AWp.region ?_
      refine AList.c 6 rfl rfl rfl (OpJ.assign rfl rfl) ?_
      refine AList.nil ?_
      refine AWp.ret ?_
      refine Fin.oneE rfl rfl ?_
      rw [hg2, rise_step num right _ Crd.d l i hk0]
      congr 1
      simp only [Bool.or_eq_true, Bool.not_eq_true'] at hc1
      rcases hc1 with h | h
      · rw [h]; rfl
      · rw [h, Bool.and_false]; rfl
    · skip
      refine AWp.skip ?_
      refine AWp.region ?_
      refine AList.c 31 rfl rfl rfl (OpJ.move rfl rfl) ?_
      refine AList.c 7 rfl rfl rfl (OpJ.assign rfl rfl) ?_
      refine AList.nil ?_
      refine AWp.region ?_
      refine AList.c 32 rfl rfl rfl (OpJ.add rfl rfl rfl (i64ok ?_)) ?_
      · omega
      refine AList.c 13 rfl rfl rfl (OpJ.move rfl rfl) ?_
      refine AList.nil ?_
      refine ⟨i + 1, ?_, ?_, ?_⟩
      · have hq := hc1
        simp only [Bool.or_eq_false_iff, Bool.not_eq_false'] at hq
        have hi2 := hq.1
        simp only [inB, Bool.and_eq_true, decide_eq_true_eq] at hi2
        exact ⟨hk0, by rw [hg2, rise_step num right _ Crd.d l i hk0, hq.1, hq.2]; rfl, by show -1 ≤ num (gt Crd.d l i); omega, hi2.2⟩
      · omega
      exact To.done [] rfl (by repeat (first | exact Sub.nil | refine Sub.cons rfl ?_)) rfl
  · skip
    have hi : i = l.length := by have h := of_decide_eq_false hc0; omega
    refine AWp.exit ?_
    refine AWp.seq ?_
    refine AWp.region ?_
    refine AList.c 6 rfl rfl rfl (OpJ.assign rfl rfl) ?_
    refine AList.nil ?_
    refine AWp.ret ?_
    refine Fin.oneE rfl rfl ?_
    rw [hg2, hi, List.drop_length]
    rfl
theorem risePck_ok (l : List Pck) (fn fr : PV) (num : Pck → Int) (right : Pck → Bool) (hl : l.length ≤ bigN) (hn : ∀ x ∈ l, FPure Tryd.prog fn [.agg x.cells] (.int .i64 (num x))) (hr : ∀ x ∈ l, FPure Tryd.prog fr [.agg x.cells] (.bool (right x))) : Pure Tryd.prog 59 [.is (l.flatMap Pck.cells) l.length, fn, fr] (.bool (riseB num right (-1) l)) := by
  have hl2 := hl
  unfold bigN at hl2
  refine Pure.start (N := 33) Tryd.func59 rfl rfl (Nat.le_of_ble_eq_true rfl) ?_
  refine AWp.seq ?_
  refine AWp.region ?_
  refine AList.c 6 rfl rfl rfl (OpJ.assign rfl rfl) ?_
  refine AList.nil ?_
  refine AWp.seq ?_
  refine AWp.region ?_
  refine AList.c 7 rfl rfl rfl (OpJ.assign rfl rfl) ?_
  refine AList.nil ?_
  refine AWp.seq ?_
  refine AWp.seq ?_
  refine AWp.region ?_
  refine AList.c 11 rfl rfl rfl (OpJ.move rfl rfl) ?_
  refine AList.c 12 rfl rfl rfl (OpJ.lenSlice rfl rfl sl24 rfl) ?_
  refine AList.c 13 rfl rfl rfl (OpJ.move rfl rfl) ?_
  refine AList.nil ?_
  refine AWp.block ?_
  refine AWp.loopHL [1, 2, 11, 12] (fun g => [(13, .p (.int .i64 ((g : Nat) : Int))), (7, .p (.int .i64 (lastR num Pck.d l g)))]) (fun g => []) (fun g => g ≤ l.length ∧ riseB num right (-1) l = riseB num right (lastR num Pck.d l g) (l.drop g) ∧ -1 ≤ lastR num Pck.d l g ∧ lastR num Pck.d l g ≤ 1000000) (fun g => l.length - g) 0 ⟨Nat.zero_le _, rfl, (by show (-1 : Int) ≤ -1; decide), (by show (-1 : Int) ≤ 1000000; decide)⟩ (To.sub (Sub.chk (Sub.cons rfl (Sub.cons rfl (Sub.nil))))) (fun i ⟨hg1, hg2, hg3, hg4⟩ => ?_)
  refine AWp.seq ?_
  refine AWp.region ?_
  refine AList.c 14 rfl rfl rfl (OpJ.lss rfl rfl rfl) ?_
  refine AList.nil ?_
  refine AWp.seq ?_
  refine AWp.cond _ rfl (fun hc0 => ?_) (fun hc0 => ?_)
  · skip
    have hk0 : i < l.length := by have h := of_decide_eq_true hc0; omega
    refine AWp.skip ?_
    refine AWp.seq ?_
    refine AWp.block ?_
    refine AWp.seq ?_
    refine AWp.region ?_
    refine AList.c 15 rfl rfl rfl (OpJ.indexG (g := gt Pck.d l) (gt_get _) rfl rfl rfl sl24 el24 rfl (fun _ => rfl) (by decide) hk0) ?_
    refine AList.c 16 rfl rfl rfl (OpJ.load (v := .p (.agg (gt Pck.d l i).cells)) rfl rfl ty36 rfl) ?_
    refine AList.c 9 rfl rfl rfl (OpJ.allocOwn rfl zr36 rfl) ?_
    refine AList.c0 rfl rfl (OpJ.store rfl rfl rfl rfl rfl ty36 rfl rfl) ?_
    refine AList.nil ?_
    refine AWp.seq ?_
    refine AWp.region ?_
    refine AList.c 17 rfl rfl rfl (OpJ.move rfl rfl) ?_
    refine AList.c 18 rfl rfl rfl (OpJ.load (v := .p (.agg (gt Pck.d l i).cells)) rfl rfl ty36 rfl) ?_
    refine AList.c 19 rfl rfl rfl (OpJ.callF (hn _ (gt_mem _ hk0)) rfl rfl rfl) ?_
    refine AList.c 10 rfl rfl rfl (OpJ.assign rfl rfl) ?_
    refine AList.nil ?_
    refine AWp.seq ?_
    refine AWp.seq ?_
    refine AWp.region ?_
    refine AList.c 20 rfl rfl rfl (OpJ.move rfl rfl) ?_
    refine AList.c 21 rfl rfl rfl (OpJ.move rfl rfl) ?_
    refine AList.c 22 rfl rfl rfl (OpJ.add rfl rfl rfl (i64ok ?_)) ?_
    · omega
    refine AList.c 23 rfl rfl rfl (OpJ.callP (within_ok _ _ _) rfl rfl rfl rfl rf57) ?_
    refine AList.c 24 rfl rfl rfl (OpJ.not_ rfl rfl) ?_
    refine AList.c 25 rfl rfl rfl (OpJ.move rfl rfl) ?_
    refine AList.g 26 25 rfl rfl rfl rfl rfl rfl rfl [(2, _)] (fun h => And.intro (.inl rfl) (trivial)) (fun h => (OpJ.move rfl rfl)) ?_
    refine AList.g 27 25 rfl rfl rfl rfl rfl rfl rfl [(9, _)] (fun h => And.intro (.inl rfl) (trivial)) (fun h => (OpJ.load (v := .p (.agg (gt Pck.d l i).cells)) rfl rfl ty36 rfl)) ?_
    refine AList.g 28 25 rfl rfl rfl rfl rfl rfl rfl [(26, _), (27, _)] (fun h => And.intro (.inr ⟨_, rfl, h⟩) (And.intro (.inr ⟨_, rfl, h⟩) (trivial))) (fun h => (OpJ.callF (hr _ (gt_mem _ hk0)) rfl rfl rfl)) ?_
    refine AList.g 29 25 rfl rfl rfl rfl rfl rfl rfl [(28, _)] (fun h => And.intro (.inr ⟨_, rfl, h⟩) (trivial)) (fun h => (OpJ.not_ rfl rfl)) ?_
    refine AList.c 30 rfl rfl rfl (OpJ.or_ rfl rfl rfl ?_) ?_
    · first | (intro h; rw [h]; rfl) | (intro h; simp_all)
    refine AList.nil ?_
    refine AWp.cond _ rfl (fun hc1 => ?_) (fun hc1 => ?_)
    · skip
      refine AWp.seq ?_
      refine AWp.region ?_
      refine AList.c 6 rfl rfl rfl (OpJ.assign rfl rfl) ?_
      refine AList.nil ?_
      refine AWp.ret ?_
      refine Fin.oneE rfl rfl ?_
      rw [hg2, rise_step num right _ Pck.d l i hk0]
      congr 1
      simp only [Bool.or_eq_true, Bool.not_eq_true'] at hc1
      rcases hc1 with h | h
      · rw [h]; rfl
      · rw [h, Bool.and_false]; rfl
    · skip
      refine AWp.skip ?_
      refine AWp.region ?_
      refine AList.c 31 rfl rfl rfl (OpJ.move rfl rfl) ?_
      refine AList.c 7 rfl rfl rfl (OpJ.assign rfl rfl) ?_
      refine AList.nil ?_
      refine AWp.region ?_
      refine AList.c 32 rfl rfl rfl (OpJ.add rfl rfl rfl (i64ok ?_)) ?_
      · omega
      refine AList.c 13 rfl rfl rfl (OpJ.move rfl rfl) ?_
      refine AList.nil ?_
      refine ⟨i + 1, ?_, ?_, ?_⟩
      · have hq := hc1
        simp only [Bool.or_eq_false_iff, Bool.not_eq_false'] at hq
        have hi2 := hq.1
        simp only [inB, Bool.and_eq_true, decide_eq_true_eq] at hi2
        exact ⟨hk0, by rw [hg2, rise_step num right _ Pck.d l i hk0, hq.1, hq.2]; rfl, by show -1 ≤ num (gt Pck.d l i); omega, hi2.2⟩
      · omega
      exact To.done [] rfl (by repeat (first | exact Sub.nil | refine Sub.cons rfl ?_)) rfl
  · skip
    have hi : i = l.length := by have h := of_decide_eq_false hc0; omega
    refine AWp.exit ?_
    refine AWp.seq ?_
    refine AWp.region ?_
    refine AList.c 6 rfl rfl rfl (OpJ.assign rfl rfl) ?_
    refine AList.nil ?_
    refine AWp.ret ?_
    refine Fin.oneE rfl rfl ?_
    rw [hg2, hi, List.drop_length]
    rfl
theorem ar2_ok (r : Rpt) : Pure Tryd.prog 49 [.agg r.cells] (.int .i64 r.batch) := by
  refine Pure.start (N := 5) Tryd.func49 rfl rfl (Nat.le_of_ble_eq_true rfl) ?_
  refine AWp.seq ?_
  refine AWp.region ?_
  refine AList.c 1 rfl rfl rfl (OpJ.boxImm rfl rfl rfl) ?_
  refine AList.c 2 rfl rfl rfl (OpJ.assign rfl rfl) ?_
  refine AList.nil ?_
  refine AWp.seq ?_
  refine AWp.region ?_
  refine AList.c 3 rfl rfl rfl (OpJ.fieldAddr rfl rfl fd33_0 rfl) ?_
  refine AList.c 4 rfl rfl rfl (OpJ.load (v := .p (.int .i64 r.batch)) rfl rfl ty3 rfl) ?_
  refine AList.c 2 rfl rfl rfl (OpJ.assign rfl rfl) ?_
  refine AList.nil ?_
  refine AWp.ret ?_
  exact Fin.one rfl (rfl)
theorem ar3_ok (r : Rpt) (hs : r.strokes.length ≤ bigN) : Pure Tryd.prog 50 [.agg r.cells, .ip [(.func (.func 46) [] [])] 0] (.bool (rptB r)) := by
  refine Pure.start (N := 25) Tryd.func50 rfl rfl (Nat.le_of_ble_eq_true rfl) ?_
  refine AWp.seq ?_
  refine AWp.region ?_
  refine AList.c 2 rfl rfl rfl (OpJ.boxImm rfl rfl rfl) ?_
  refine AList.c 3 rfl rfl rfl (OpJ.assign rfl rfl) ?_
  refine AList.nil ?_
  refine AWp.seq ?_
  refine AWp.region ?_
  refine AList.c 4 rfl rfl rfl (OpJ.fieldAddr rfl rfl fd33_1 rfl) ?_
  refine AList.c 5 rfl rfl rfl (OpJ.load (v := .p (stksV r.strokes)) rfl rfl ty29 rfl) ?_
  refine AList.c 6 rfl rfl rfl (OpJ.lenSlice rfl rfl sl29 rfl) ?_
  refine AList.c 7 rfl rfl rfl (OpJ.leq rfl rfl rfl) ?_
  refine AList.c 8 rfl rfl rfl (OpJ.move rfl rfl) ?_
  refine AList.g 9 8 rfl rfl rfl rfl rfl rfl rfl [(2, _)] (fun h => And.intro (.inl rfl) (trivial)) (fun h => (OpJ.fieldAddr rfl rfl fd33_1 rfl)) ?_
  refine AList.g 10 8 rfl rfl rfl rfl rfl rfl rfl [(9, _)] (fun h => And.intro (.inr ⟨_, rfl, h⟩) (trivial)) (fun h => (OpJ.load (v := .p (stksV r.strokes)) rfl rfl ty29 rfl)) ?_
  refine AList.g 11 8 rfl rfl rfl rfl rfl rfl rfl [(1, _)] (fun h => And.intro (.inl rfl) (trivial)) (fun h => (OpJ.load (v := .p (.func (.func 46) [] [])) rfl rfl ty103 rfl)) ?_
  refine AList.g 12 8 rfl rfl rfl rfl rfl rfl rfl [(10, _), (11, _)] (fun h => And.intro (.inr ⟨_, rfl, h⟩) (And.intro (.inr ⟨_, rfl, h⟩) (trivial))) (fun h => (OpJ.callP (containsSt_ok r.strokes _ stkN hs (fun y _ => ⟨46, [.agg y.cells], rfl, rf46, ar1_ok y⟩)) rfl rfl rfl rfl rf51)) ?_
  refine AList.g 13 8 rfl rfl rfl rfl rfl rfl rfl [(12, _)] (fun h => And.intro (.inr ⟨_, rfl, h⟩) (trivial)) (fun h => (OpJ.not_ rfl rfl)) ?_
  refine AList.c 14 rfl rfl rfl (OpJ.and_ rfl rfl rfl ?_) ?_
  · first | (intro h; rw [h]; rfl) | (intro h; simp_all)
  refine AList.c 15 rfl rfl rfl (OpJ.move rfl rfl) ?_
  refine AList.g 16 15 rfl rfl rfl rfl rfl rfl rfl [(2, _)] (fun h => And.intro (.inl rfl) (trivial)) (fun h => (OpJ.fieldAddr rfl rfl fd33_2 rfl)) ?_
  refine AList.g 17 15 rfl rfl rfl rfl rfl rfl rfl [(16, _)] (fun h => And.intro (.inr ⟨_, rfl, h⟩) (trivial)) (fun h => (OpJ.load (v := .p (.agg r.strength.cells)) rfl rfl ty31 rfl)) ?_
  refine AList.g 18 15 rfl rfl rfl rfl rfl rfl rfl [(17, _)] (fun h => And.intro (.inr ⟨_, rfl, h⟩) (trivial)) (fun h => (OpJ.callP (isSpan_ok _ _ _) rfl rfl rfl rfl rf47)) ?_
  refine AList.c 19 rfl rfl rfl (OpJ.and_ rfl rfl rfl ?_) ?_
  · first | (intro h; rw [h]; rfl) | (intro h; simp_all)
  refine AList.c 20 rfl rfl rfl (OpJ.move rfl rfl) ?_
  refine AList.g 21 20 rfl rfl rfl rfl rfl rfl rfl [(2, _)] (fun h => And.intro (.inl rfl) (trivial)) (fun h => (OpJ.fieldAddr rfl rfl fd33_3 rfl)) ?_
  refine AList.g 22 20 rfl rfl rfl rfl rfl rfl rfl [(21, _)] (fun h => And.intro (.inr ⟨_, rfl, h⟩) (trivial)) (fun h => (OpJ.load (v := .p (.agg r.wear.cells)) rfl rfl ty31 rfl)) ?_
  refine AList.g 23 20 rfl rfl rfl rfl rfl rfl rfl [(22, _)] (fun h => And.intro (.inr ⟨_, rfl, h⟩) (trivial)) (fun h => (OpJ.callP (isSpan_ok _ _ _) rfl rfl rfl rfl rf47)) ?_
  refine AList.c 24 rfl rfl rfl (OpJ.and_ rfl rfl rfl ?_) ?_
  · first | (intro h; rw [h]; rfl) | (intro h; simp_all)
  refine AList.c 3 rfl rfl rfl (OpJ.assign rfl rfl) ?_
  refine AList.nil ?_
  refine AWp.ret ?_
  exact Fin.one rfl (rfl)
theorem areReports_ok (l : List Rpt) (hl : l.length ≤ bigN) (hs : ∀ r ∈ l, r.strokes.length ≤ bigN) : Pure Tryd.prog 20 [rptsV l] (.bool (rptsB l)) := by
  refine Pure.start (N := 7) Tryd.func20 rfl rfl (Nat.le_of_ble_eq_true rfl) ?_
  refine AWp.seq ?_
  refine AWp.region ?_
  refine AList.c 2 rfl rfl rfl (OpJ.assign rfl rfl) ?_
  refine AList.nil ?_
  refine AWp.seq ?_
  refine AWp.region ?_
  refine AList.c 3 rfl rfl rfl (OpJ.allocOwn rfl zr103 rfl) ?_
  refine AList.c0 rfl rfl (OpJ.store rfl rfl rfl rfl rfl ty103 rfl rfl) ?_
  refine AList.nil ?_
  refine AWp.seq ?_
  refine AWp.freeze 0 rfl rfl ?_
  refine AWp.region ?_
  refine AList.c 4 rfl rfl rfl (OpJ.move rfl rfl) ?_
  refine AList.c 5 rfl rfl rfl (OpJ.makeFunc rfl rfl rfl) ?_
  refine AList.c 6 rfl rfl rfl (OpJ.callP (riseRpt_ok l _ _ Rpt.batch rptB hl (fun y _ => ⟨49, [.agg y.cells], rfl, rf49, ar2_ok y⟩) (fun y hy => ⟨50, [.agg y.cells, .ip [(.func (.func 46) [] [])] 0], rfl, rf50, ar3_ok y (hs y hy)⟩)) rfl rfl rfl rfl rf48) ?_
  refine AList.c 2 rfl rfl rfl (OpJ.assign rfl rfl) ?_
  refine AList.nil ?_
  refine AWp.ret ?_
  exact Fin.one rfl (rfl)
theorem ac1_ok (c : Crd) : Pure Tryd.prog 55 [.agg c.cells] (.int .i64 c.number) := by
  refine Pure.start (N := 5) Tryd.func55 rfl rfl (Nat.le_of_ble_eq_true rfl) ?_
  refine AWp.seq ?_
  refine AWp.region ?_
  refine AList.c 1 rfl rfl rfl (OpJ.boxImm rfl rfl rfl) ?_
  refine AList.c 2 rfl rfl rfl (OpJ.assign rfl rfl) ?_
  refine AList.nil ?_
  refine AWp.seq ?_
  refine AWp.region ?_
  refine AList.c 3 rfl rfl rfl (OpJ.fieldAddr rfl rfl fd76_0 rfl) ?_
  refine AList.c 4 rfl rfl rfl (OpJ.load (v := .p (.int .i64 c.number)) rfl rfl ty3 rfl) ?_
  refine AList.c 2 rfl rfl rfl (OpJ.assign rfl rfl) ?_
  refine AList.nil ?_
  refine AWp.ret ?_
  exact Fin.one rfl (rfl)
theorem ac2_ok (c : Crd) : Pure Tryd.prog 56 [.agg c.cells] (.bool (crdB c)) := by
  refine Pure.start (N := 21) Tryd.func56 rfl rfl (Nat.le_of_ble_eq_true rfl) ?_
  refine AWp.seq ?_
  refine AWp.region ?_
  refine AList.c 1 rfl rfl rfl (OpJ.boxImm rfl rfl rfl) ?_
  refine AList.c 2 rfl rfl rfl (OpJ.assign rfl rfl) ?_
  refine AList.nil ?_
  refine AWp.seq ?_
  refine AWp.region ?_
  refine AList.c 3 rfl rfl rfl (OpJ.fieldAddr rfl rfl fd76_1 rfl) ?_
  refine AList.c 4 rfl rfl rfl (OpJ.load (v := .p (.int .i64 c.hour)) rfl rfl ty3 rfl) ?_
  refine AList.c 5 rfl rfl rfl (OpJ.callP (within_ok _ _ _) rfl rfl rfl rfl rf57) ?_
  refine AList.c 6 rfl rfl rfl (OpJ.move rfl rfl) ?_
  refine AList.g 7 6 rfl rfl rfl rfl rfl rfl rfl [(1, _)] (fun h => And.intro (.inl rfl) (trivial)) (fun h => (OpJ.fieldAddr rfl rfl fd76_2 rfl)) ?_
  refine AList.g 8 6 rfl rfl rfl rfl rfl rfl rfl [(7, _)] (fun h => And.intro (.inr ⟨_, rfl, h⟩) (trivial)) (fun h => (OpJ.load (v := .p (.int .i64 c.shade)) rfl rfl ty3 rfl)) ?_
  refine AList.g 9 6 rfl rfl rfl rfl rfl rfl rfl [(8, _)] (fun h => And.intro (.inr ⟨_, rfl, h⟩) (trivial)) (fun h => (OpJ.callP (within_ok _ _ _) rfl rfl rfl rfl rf57)) ?_
  refine AList.c 10 rfl rfl rfl (OpJ.and_ rfl rfl rfl ?_) ?_
  · first | (intro h; rw [h]; rfl) | (intro h; simp_all)
  refine AList.c 11 rfl rfl rfl (OpJ.move rfl rfl) ?_
  refine AList.g 12 11 rfl rfl rfl rfl rfl rfl rfl [(1, _)] (fun h => And.intro (.inl rfl) (trivial)) (fun h => (OpJ.fieldAddr rfl rfl fd76_3 rfl)) ?_
  refine AList.g 13 11 rfl rfl rfl rfl rfl rfl rfl [(12, _)] (fun h => And.intro (.inr ⟨_, rfl, h⟩) (trivial)) (fun h => (OpJ.load (v := .p (.int .i64 c.places)) rfl rfl ty3 rfl)) ?_
  refine AList.g 14 11 rfl rfl rfl rfl rfl rfl rfl [(13, _)] (fun h => And.intro (.inr ⟨_, rfl, h⟩) (trivial)) (fun h => (OpJ.callP (within_ok _ _ _) rfl rfl rfl rfl rf57)) ?_
  refine AList.c 15 rfl rfl rfl (OpJ.and_ rfl rfl rfl ?_) ?_
  · first | (intro h; rw [h]; rfl) | (intro h; simp_all)
  refine AList.c 16 rfl rfl rfl (OpJ.move rfl rfl) ?_
  refine AList.g 17 16 rfl rfl rfl rfl rfl rfl rfl [(1, _)] (fun h => And.intro (.inl rfl) (trivial)) (fun h => (OpJ.fieldAddr rfl rfl fd76_4 rfl)) ?_
  refine AList.g 18 16 rfl rfl rfl rfl rfl rfl rfl [(17, _)] (fun h => And.intro (.inr ⟨_, rfl, h⟩) (trivial)) (fun h => (OpJ.load (v := .p (.int .i64 c.many)) rfl rfl ty3 rfl)) ?_
  refine AList.g 19 16 rfl rfl rfl rfl rfl rfl rfl [(18, _)] (fun h => And.intro (.inr ⟨_, rfl, h⟩) (trivial)) (fun h => (OpJ.callP (within_ok _ _ _) rfl rfl rfl rfl rf57)) ?_
  refine AList.c 20 rfl rfl rfl (OpJ.and_ rfl rfl rfl ?_) ?_
  · first | (intro h; rw [h]; rfl) | (intro h; simp_all)
  refine AList.c 2 rfl rfl rfl (OpJ.assign rfl rfl) ?_
  refine AList.nil ?_
  refine AWp.ret ?_
  exact Fin.one rfl (rfl)
theorem areCards_ok (l : List Crd) (hl : l.length ≤ bigN) : Pure Tryd.prog 23 [crdsV l] (.bool (crdsB l)) := by
  refine Pure.start (N := 5) Tryd.func23 rfl rfl (Nat.le_of_ble_eq_true rfl) ?_
  refine AWp.seq ?_
  refine AWp.region ?_
  refine AList.c 2 rfl rfl rfl (OpJ.assign rfl rfl) ?_
  refine AList.nil ?_
  refine AWp.seq ?_
  refine AWp.region ?_
  refine AList.c 3 rfl rfl rfl (OpJ.move rfl rfl) ?_
  refine AList.c 4 rfl rfl rfl (OpJ.callP (riseCrd_ok l _ _ Crd.number crdB hl (fun y _ => ⟨55, [.agg y.cells], rfl, rf55, ac1_ok y⟩) (fun y _ => ⟨56, [.agg y.cells], rfl, rf56, ac2_ok y⟩)) rfl rfl rfl rfl rf54) ?_
  refine AList.c 2 rfl rfl rfl (OpJ.assign rfl rfl) ?_
  refine AList.nil ?_
  refine AWp.ret ?_
  exact Fin.one rfl (rfl)
theorem ap1_ok (p : Pck) : Pure Tryd.prog 60 [.agg p.cells] (.int .i64 p.box) := by
  refine Pure.start (N := 5) Tryd.func60 rfl rfl (Nat.le_of_ble_eq_true rfl) ?_
  refine AWp.seq ?_
  refine AWp.region ?_
  refine AList.c 1 rfl rfl rfl (OpJ.boxImm rfl rfl rfl) ?_
  refine AList.c 2 rfl rfl rfl (OpJ.assign rfl rfl) ?_
  refine AList.nil ?_
  refine AWp.seq ?_
  refine AWp.region ?_
  refine AList.c 3 rfl rfl rfl (OpJ.fieldAddr rfl rfl fd36_0 rfl) ?_
  refine AList.c 4 rfl rfl rfl (OpJ.load (v := .p (.int .i64 p.box)) rfl rfl ty3 rfl) ?_
  refine AList.c 2 rfl rfl rfl (OpJ.assign rfl rfl) ?_
  refine AList.nil ?_
  refine AWp.ret ?_
  exact Fin.one rfl (rfl)
theorem ap2_ok (p : Pck) (hp : p.colours.length ≤ bigN) : Pure Tryd.prog 61 [.agg p.cells] (.bool (pckB p)) := by
  have hp2 := hp
  unfold bigN at hp2
  refine Pure.start (N := 23) Tryd.func61 rfl rfl (Nat.le_of_ble_eq_true rfl) ?_
  refine AWp.seq ?_
  refine AWp.region ?_
  refine AList.c 1 rfl rfl rfl (OpJ.boxImm rfl rfl rfl) ?_
  refine AList.c 2 rfl rfl rfl (OpJ.assign rfl rfl) ?_
  refine AList.nil ?_
  refine AWp.seq ?_
  refine AWp.region ?_
  refine AList.c 3 rfl rfl rfl (OpJ.assign rfl rfl) ?_
  refine AList.nil ?_
  refine AWp.seq ?_
  refine AWp.seq ?_
  refine AWp.region ?_
  refine AList.c 6 rfl rfl rfl (OpJ.fieldAddr rfl rfl fd36_1 rfl) ?_
  refine AList.c 7 rfl rfl rfl (OpJ.load (v := .p (intsV p.colours)) rfl rfl ty34 rfl) ?_
  refine AList.c 8 rfl rfl rfl (OpJ.lenSlice rfl rfl sl34 rfl) ?_
  refine AList.c 9 rfl rfl rfl (OpJ.move rfl rfl) ?_
  refine AList.nil ?_
  refine AWp.block ?_
  refine AWp.loopHL [1, 7, 8, 19, 20, 21, 22] (fun g => [(9, .p (.int .i64 ((g : Nat) : Int))), (3, .p (.int .i64 (lastC p.colours g)))]) (fun g => []) (fun g => g ≤ p.colours.length ∧ colsB 0 p.colours = colsB (lastC p.colours g) (p.colours.drop g)) (fun g => p.colours.length - g) 0 ⟨Nat.zero_le _, rfl⟩ (To.sub (Sub.chk (Sub.cons rfl (Sub.cons rfl (Sub.nil))))) (fun i ⟨hg1, hg2⟩ => ?_)
  refine AWp.seq ?_
  refine AWp.region ?_
  refine AList.c 10 rfl rfl rfl (OpJ.lss rfl rfl rfl) ?_
  refine AList.nil ?_
  refine AWp.seq ?_
  refine AWp.cond _ rfl (fun hc0 => ?_) (fun hc0 => ?_)
  · skip
    have hk0 : i < p.colours.length := by have h := of_decide_eq_true hc0; omega
    refine AWp.skip ?_
    refine AWp.seq ?_
    refine AWp.block ?_
    refine AWp.seq ?_
    refine AWp.region ?_
    refine AList.c 11 rfl rfl rfl (OpJ.indexG (g := gt 0 p.colours) (gt_get _) rfl rfl rfl sl34 el34 rfl (fun _ => rfl) (by decide) hk0) ?_
    refine AList.c 12 rfl rfl rfl (OpJ.load (v := .p (.int .i64 (gt 0 p.colours i))) rfl rfl ty3 rfl) ?_
    refine AList.c 5 rfl rfl rfl (OpJ.assign rfl rfl) ?_
    refine AList.nil ?_
    refine AWp.seq ?_
    refine AWp.seq ?_
    refine AWp.region ?_
    refine AList.c 13 rfl rfl rfl (OpJ.move rfl rfl) ?_
    refine AList.c 14 rfl rfl rfl (OpJ.move rfl rfl) ?_
    refine AList.c 15 rfl rfl rfl (OpJ.callP (within_ok _ _ _) rfl rfl rfl rfl rf57) ?_
    refine AList.c 16 rfl rfl rfl (OpJ.not_ rfl rfl) ?_
    refine AList.nil ?_
    refine AWp.cond _ rfl (fun hc1 => ?_) (fun hc1 => ?_)
    · skip
      refine AWp.seq ?_
      refine AWp.region ?_
      refine AList.c 2 rfl rfl rfl (OpJ.assign rfl rfl) ?_
      refine AList.nil ?_
      refine AWp.ret ?_
      refine Fin.oneE rfl rfl ?_
      have hq : inB (gt 0 p.colours i) (lastC p.colours i) 99 = false := by simpa using hc1
      unfold pckB
      rw [hg2, cols_step _ _ i hk0, hq]
      rfl
    · skip
      refine AWp.skip ?_
      refine AWp.region ?_
      refine AList.c 17 rfl rfl rfl (OpJ.move rfl rfl) ?_
      refine AList.c 3 rfl rfl rfl (OpJ.assign rfl rfl) ?_
      refine AList.nil ?_
      refine AWp.region ?_
      refine AList.c 18 rfl rfl rfl (OpJ.add rfl rfl rfl (i64ok ?_)) ?_
      · omega
      refine AList.c 9 rfl rfl rfl (OpJ.move rfl rfl) ?_
      refine AList.nil ?_
      refine ⟨i + 1, ?_, ?_, ?_⟩
      · have hq : inB (gt 0 p.colours i) (lastC p.colours i) 99 = true := by simpa using hc1
        exact ⟨hk0, by rw [hg2, cols_step _ _ i hk0, hq]; rfl⟩
      · omega
      exact To.done [] rfl (by repeat (first | exact Sub.nil | refine Sub.cons rfl ?_)) rfl
  · skip
    have hi : i = p.colours.length := by have h := of_decide_eq_false hc0; omega
    refine AWp.exit ?_
    refine AWp.seq ?_
    refine AWp.region ?_
    refine AList.c 19 rfl rfl rfl (OpJ.fieldAddr rfl rfl fd36_1 rfl) ?_
    refine AList.c 20 rfl rfl rfl (OpJ.load (v := .p (intsV p.colours)) rfl rfl ty34 rfl) ?_
    refine AList.c 21 rfl rfl rfl (OpJ.lenSlice rfl rfl sl34 rfl) ?_
    refine AList.c 22 rfl rfl rfl (OpJ.callP (within_ok _ _ _) rfl rfl rfl rfl rf57) ?_
    refine AList.c 2 rfl rfl rfl (OpJ.assign rfl rfl) ?_
    refine AList.nil ?_
    refine AWp.ret ?_
    refine Fin.oneE rfl rfl ?_
    unfold pckB
    rw [hg2, hi, List.drop_length]
    rfl
theorem arePacks_ok (l : List Pck) (hl : l.length ≤ bigN) (hs : ∀ p ∈ l, p.colours.length ≤ bigN) : Pure Tryd.prog 29 [pcksV l] (.bool (pcksB l)) := by
  refine Pure.start (N := 5) Tryd.func29 rfl rfl (Nat.le_of_ble_eq_true rfl) ?_
  refine AWp.seq ?_
  refine AWp.region ?_
  refine AList.c 2 rfl rfl rfl (OpJ.assign rfl rfl) ?_
  refine AList.nil ?_
  refine AWp.seq ?_
  refine AWp.region ?_
  refine AList.c 3 rfl rfl rfl (OpJ.move rfl rfl) ?_
  refine AList.c 4 rfl rfl rfl (OpJ.callP (risePck_ok l _ _ Pck.box pckB hl (fun y _ => ⟨60, [.agg y.cells], rfl, rf60, ap1_ok y⟩) (fun y hy => ⟨61, [.agg y.cells], rfl, rf61, ap2_ok y (hs y hy)⟩)) rfl rfl rfl rfl rf59) ?_
  refine AList.c 2 rfl rfl rfl (OpJ.assign rfl rfl) ?_
  refine AList.nil ?_
  refine AWp.ret ?_
  exact Fin.one rfl (rfl)
end Go.Proofs.YtplofbjppcbchaaDoor
end
