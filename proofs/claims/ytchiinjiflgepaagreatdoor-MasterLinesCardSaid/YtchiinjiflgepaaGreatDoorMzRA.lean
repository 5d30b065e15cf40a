/-
 Contracts of the library's shelf, laid at this program by the kit's tool.
 Chapter 15: what the library's texts do at this program: numbers as texts; texts that are cut, joined, looked at.
 The program of chapter 15: small functions; the batches of a set; a reply.
 The program of chapter 15: a number in a word; a reply.
 The program of chapter 15: the numbers in words.
 The program of chapter 15: books that are copied.
 The program of chapter 15: the floor; a card more.
-/
import Derived.Shelf.LaysM
import Derived.Shelf.Strconv.Itoa3
import Derived.Shelf.Bits.Mul64
import Derived.Shelf.Strings.Count
import Derived.Shelf.Strings.Search3
import Derived.Shelf.Strings.SplitCore
import Derived.Shelf.Strings.Prefix
import Derived.Shelf.Strings.OnBuilder
import Derived.Shelf.Small.Strs
import Derived.Shelf.Spec.TrailingZeros
import Derived.Shelf.Lays7
import Derived.Test.YtchiinjiflgepaaGreatDoorProg
import Derived.Test.YtchiinjiflgepaaGreatDoorMzRP
import Derived.Test.YtchiinjiflgepaaGreatDoorMzRF
import Derived.Test.YtchiinjiflgepaaGreatDoorFaRF
import Derived.Test.YtchiinjiflgepaaGreatDoorMzRM
import Derived.Test.YtchiinjiflgepaaGreatDoorMzRZ
theorem W2{A:Prop}(h:A:=by
 intro l tmps k h x hJ hx
 subst hJ
 have hk:k<ws.length:=by have:=(Za.1 hx).1;unfold u6 at this;rwa [Zr] at this
 obtain rfl:x=[.p (.int .i64 (gh ws[k]))]:=by unfold u6 at hx;rw[Zt,Zb hk] at hx;simpa using hx.symm
 iterate 3 refine af ?_
 refine⟨rfl,rfl,?_⟩
 iterate 2 refine af ?_
 refine Kc (Kl (gP 1 k)) ?_
 refine af ?_
 refine Kc (aa.aF rfl ai (by decide) rfl rfl rfl) ?_
 refine Kc (aa.fV rfl rfl rfl ai ai rfl ?_ rfl (by decide) rfl ai (by decide) ?_) ?_
 ·rw[Zr,AF.bD (c:=1) (fun _=>rfl),Zr,zC];show min _ _*1=_*1;omega
 ·omega
 iterate 2 refine af ?_
 refine⟨_,rfl,To.done [0,3,2] rfl Sub.nil ?_⟩
 show[ak.cells [V.row 1 (k+1)] 39,ak.row (bE _ (_++_)) _,_]=_
 rw[bI,aP,<- ZbE hk,Zy,ZX,Zy]
 rfl):A:=h
theorem Ir{A:Prop}(h:A:=by
 rw[Zc,ZX,Zy]
 simp[dG]):A:=h
set_option linter.unusedSimpArgs false
set_option linter.unusedVariables false
section
namespace Go.Proofs
open Go.Shelf
def Tryz.zI:Go.Shelf.Ren:=⟨fun | 171=>25 | 243=>66 | 246=>141 | 283=>179 | 284=>180 | 285=>181 | 286=>182 | 129=>205 | 317=>204 | 318=>206 | 319=>207 | 320=>158 | 337=>145 | 338=>197 | n=>n,fun | 3=>3 | 9=>9 | 2=>2 | 4=>4 | 171=>230 | 0=>0 | 53=>231 | 37=>75 | 5=>5 | 173=>234 | 212=>252 | 51=>136 | 20=>20 | 213=>253 | 46=>215 | 232=>236 | 233=>265 | n=>n,fun | 17=>2 | 18=>1 | 19=>3 | n=>n⟩
theorem Tryz.JZ:Go.Proofs.LaysM.n171 Tryz.prog Tryz.zI:={
 mixed:=by kernel_rfl
 f129:= Tryz.func205.trans (congrArg some (by kernel_rfl))
 f171:= Tryz.func25.trans (congrArg some (by kernel_rfl))
 f243:= Tryz.func66.trans (congrArg some (by kernel_rfl))
 f246:= Tryz.func141.trans (congrArg some (by kernel_rfl))
 f283:= Tryz.func179.trans (congrArg some (by kernel_rfl))
 f284:= Tryz.func180.trans (congrArg some (by kernel_rfl))
 f285:= Tryz.func181.trans (congrArg some (by kernel_rfl))
 f286:= Tryz.func182.trans (congrArg some (by kernel_rfl))
 f317:= Tryz.func204.trans (congrArg some (by kernel_rfl))
 f318:= Tryz.func206.trans (congrArg some (by kernel_rfl))
 f319:= Tryz.func207.trans (congrArg some (by kernel_rfl))
 f320:= Tryz.func158.trans (congrArg some (by kernel_rfl))
 f337:= Tryz.func145.trans (congrArg some (by kernel_rfl))
 f338:= Tryz.func197.trans (congrArg some (by kernel_rfl))
 t0:= Tryz.underlying0
 a0:= Tryz.isAgg0
 z0:= Tryz.sizeOf0
 v0:= Tryz.zeroValue0
 t2:= Tryz.underlying2
 a2:= Tryz.isAgg2
 z2:= Tryz.sizeOf2
 v2:= Tryz.zeroValue2
 t3:= Tryz.underlying3
 a3:= Tryz.isAgg3
 z3:= Tryz.sizeOf3
 v3:= Tryz.zeroValue3
 t4:= Tryz.underlying4
 a4:= Tryz.isAgg4
 z4:= Tryz.sizeOf4
 v4:= Tryz.zeroValue4
 t5:= Tryz.underlying5
 a5:= Tryz.isAgg5
 z5:= Tryz.sizeOf5
 v5:= Tryz.zeroValue5
 t9:= Tryz.underlying9
 a9:= Tryz.isAgg9
 z9:= Tryz.sizeOf9
 v9:= Tryz.zeroValue9
 t20:= Tryz.underlying20
 a20:= Tryz.isAgg20
 z20:= Tryz.sizeOf20
 v20:= Tryz.zeroValue20
 t37:= Tryz.underlying75
 a37:= Tryz.isAgg75
 z37:= Tryz.sizeOf75
 v37:= Tryz.zeroValue75
 t46:= Tryz.underlying215
 a46:= Tryz.isAgg215
 z46:= Tryz.sizeOf215
 v46:= Tryz.zeroValue215
 t51:= Tryz.underlying136
 a51:= Tryz.isAgg136
 z51:= Tryz.sizeOf136
 v51:= Tryz.zeroValue136
 t53:= Tryz.underlying231
 a53:= Tryz.isAgg231
 z53:= Tryz.sizeOf231
 v53:= Tryz.zeroValue231
 t171:= Tryz.underlying230
 a171:= Tryz.isAgg230
 z171:= Tryz.sizeOf230
 v171:= Tryz.zeroValue230
 t173:= Tryz.underlying234
 a173:= Tryz.isAgg234
 z173:= Tryz.sizeOf234
 v173:= Tryz.zeroValue234
 t212:= Tryz.underlying252
 a212:= Tryz.isAgg252
 z212:= Tryz.sizeOf252
 v212:= Tryz.zeroValue252
 t213:= Tryz.underlying253
 a213:= Tryz.isAgg253
 z213:= Tryz.sizeOf253
 t232:= Tryz.underlying236
 a232:= Tryz.isAgg236
 z232:= Tryz.sizeOf236
 v232:= Tryz.zeroValue236
 t233:= Tryz.underlying265
 a233:= Tryz.isAgg265
 z233:= Tryz.sizeOf265
 v233:= Tryz.zeroValue265
 g17:=by kernel_rfl
 g18:=by kernel_rfl
 g19:=by kernel_rfl
 i0:=by kernel_rfl
 i2:=by kernel_rfl
 i3:=by kernel_rfl
 i4:=by kernel_rfl
 i5:=by kernel_rfl
 i9:=by kernel_rfl
 i20:=by kernel_rfl
 i37:=by kernel_rfl
 i46:=by kernel_rfl
 i51:=by kernel_rfl
 i53:=by kernel_rfl
 i171:=by kernel_rfl
 i173:=by kernel_rfl
 i212:=by kernel_rfl
 i232:=by kernel_rfl
 i233:=by kernel_rfl
 m17:=by kernel_rfl
 m18:=by kernel_rfl
 m19:=by kernel_rfl}
def Tryz.tR:Go.Shelf.Ren:=⟨fun | 156=>85 | 165=>148 | 166=>44 | 169=>45 | 240=>86 | 241=>184 | 276=>149 | 277=>208 | n=>n,fun | 31=>32 | 9=>9 | 3=>3 | 4=>4 | 0=>0 | 20=>20 | 72=>89 | 76=>97 | 70=>87 | 37=>75 | 75=>96 | 127=>170 | 164=>209 | 5=>5 | 80=>99 | n=>n,fun | n=>n⟩
theorem Tryz.P9:Go.Proofs.Lays.n156 Tryz.prog Tryz.tR:={
 mixed:=by kernel_rfl
 f156:= Tryz.func85.trans (congrArg some (by kernel_rfl))
 f165:= Tryz.func148.trans (congrArg some (by kernel_rfl))
 f166:= Tryz.func44.trans (congrArg some (by kernel_rfl))
 f169:= Tryz.func45.trans (congrArg some (by kernel_rfl))
 f240:= Tryz.func86.trans (congrArg some (by kernel_rfl))
 f241:= Tryz.func184.trans (congrArg some (by kernel_rfl))
 f276:= Tryz.func149.trans (congrArg some (by kernel_rfl))
 f277:= Tryz.func208.trans (congrArg some (by kernel_rfl))
 t0:= Tryz.underlying0
 a0:= Tryz.isAgg0
 z0:= Tryz.sizeOf0
 v0:= Tryz.zeroValue0
 t3:= Tryz.underlying3
 a3:= Tryz.isAgg3
 z3:= Tryz.sizeOf3
 v3:= Tryz.zeroValue3
 t4:= Tryz.underlying4
 a4:= Tryz.isAgg4
 z4:= Tryz.sizeOf4
 v4:= Tryz.zeroValue4
 t9:= Tryz.underlying9
 a9:= Tryz.isAgg9
 z9:= Tryz.sizeOf9
 v9:= Tryz.zeroValue9
 t20:= Tryz.underlying20
 a20:= Tryz.isAgg20
 z20:= Tryz.sizeOf20
 v20:= Tryz.zeroValue20
 t31:= Tryz.underlying32
 a31:= Tryz.isAgg32
 z31:= Tryz.sizeOf32
 v31:= Tryz.zeroValue32
 t37:= Tryz.underlying75
 a37:= Tryz.isAgg75
 z37:= Tryz.sizeOf75
 v37:= Tryz.zeroValue75
 t70:= Tryz.underlying87
 a70:= Tryz.isAgg87
 z70:= Tryz.sizeOf87
 v70:= Tryz.zeroValue87
 t72:= Tryz.underlying89
 a72:= Tryz.isAgg89
 z72:= Tryz.sizeOf89
 v72:= Tryz.zeroValue89
 t75:= Tryz.underlying96
 a75:= Tryz.isAgg96
 z75:= Tryz.sizeOf96
 v75:= Tryz.zeroValue96
 t76:= Tryz.underlying97
 a76:= Tryz.isAgg97
 z76:= Tryz.sizeOf97
 v76:= Tryz.zeroValue97
 t127:= Tryz.underlying170
 a127:= Tryz.isAgg170
 z127:= Tryz.sizeOf170
 v127:= Tryz.zeroValue170
 t164:= Tryz.underlying209
 a164:= Tryz.isAgg209
 z164:= Tryz.sizeOf209
 v164:= Tryz.zeroValue209}
def Tryz.BB:Go.Shelf.Ren:=⟨fun | 221=>89 | 268=>150 | 138=>151 | 143=>65 | 195=>185 | 197=>186 | 218=>187 | 219=>140 | 260=>209 | 217=>147 | 225=>176 | 224=>177 | 267=>178 | 266=>183 | 314=>203 | n=>n,fun | 9=>9 | 3=>3 | 31=>32 | 4=>4 | 0=>0 | 105=>237 | 21=>21 | 5=>5 | 46=>215 | 119=>266 | 139=>269 | 138=>268 | 146=>249 | 51=>136 | n=>n,fun | 1=>0 | 3=>4 | 4=>5 | n=>n⟩
theorem Tryz.Oy:Go.Proofs.Lays.n221 Tryz.prog Tryz.BB:={
 mixed:=by kernel_rfl
 f138:= Tryz.func151.trans (congrArg some (by kernel_rfl))
 f143:= Tryz.func65.trans (congrArg some (by kernel_rfl))
 f195:= Tryz.func185.trans (congrArg some (by kernel_rfl))
 f197:= Tryz.func186.trans (congrArg some (by kernel_rfl))
 f217:= Tryz.func147.trans (congrArg some (by kernel_rfl))
 f218:= Tryz.func187.trans (congrArg some (by kernel_rfl))
 f219:= Tryz.func140.trans (congrArg some (by kernel_rfl))
 f221:= Tryz.func89.trans (congrArg some (by kernel_rfl))
 f224:= Tryz.func177.trans (congrArg some (by kernel_rfl))
 f225:= Tryz.func176.trans (congrArg some (by kernel_rfl))
 f260:= Tryz.func209.trans (congrArg some (by kernel_rfl))
 f266:= Tryz.func183.trans (congrArg some (by kernel_rfl))
 f267:= Tryz.func178.trans (congrArg some (by kernel_rfl))
 f268:= Tryz.func150.trans (congrArg some (by kernel_rfl))
 f314:= Tryz.func203.trans (congrArg some (by kernel_rfl))
 t0:= Tryz.underlying0
 a0:= Tryz.isAgg0
 z0:= Tryz.sizeOf0
 v0:= Tryz.zeroValue0
 t3:= Tryz.underlying3
 a3:= Tryz.isAgg3
 z3:= Tryz.sizeOf3
 v3:= Tryz.zeroValue3
 t4:= Tryz.underlying4
 a4:= Tryz.isAgg4
 z4:= Tryz.sizeOf4
 v4:= Tryz.zeroValue4
 t5:= Tryz.underlying5
 a5:= Tryz.isAgg5
 z5:= Tryz.sizeOf5
 v5:= Tryz.zeroValue5
 t9:= Tryz.underlying9
 a9:= Tryz.isAgg9
 z9:= Tryz.sizeOf9
 v9:= Tryz.zeroValue9
 t21:= Tryz.underlying21
 a21:= Tryz.isAgg21
 z21:= Tryz.sizeOf21
 v21:= Tryz.zeroValue21
 t31:= Tryz.underlying32
 a31:= Tryz.isAgg32
 z31:= Tryz.sizeOf32
 v31:= Tryz.zeroValue32
 t46:= Tryz.underlying215
 a46:= Tryz.isAgg215
 z46:= Tryz.sizeOf215
 v46:= Tryz.zeroValue215
 t51:= Tryz.underlying136
 a51:= Tryz.isAgg136
 z51:= Tryz.sizeOf136
 v51:= Tryz.zeroValue136
 t105:= Tryz.underlying237
 a105:= Tryz.isAgg237
 z105:= Tryz.sizeOf237
 v105:= Tryz.zeroValue237
 t119:= Tryz.underlying266
 a119:= Tryz.isAgg266
 z119:= Tryz.sizeOf266
 t138:= Tryz.underlying268
 a138:= Tryz.isAgg268
 z138:= Tryz.sizeOf268
 v138:= Tryz.zeroValue268
 t139:= Tryz.underlying269
 a139:= Tryz.isAgg269
 z139:= Tryz.sizeOf269
 v139:= Tryz.zeroValue269
 t146:= Tryz.underlying249
 a146:= Tryz.isAgg249
 z146:= Tryz.sizeOf249
 v146:= Tryz.zeroValue249
 g1:=by kernel_rfl
 g3:=by kernel_rfl
 g4:=by kernel_rfl}
def Tryz.AN:Go.Shelf.Ren:=⟨fun | 143=>65 | 219=>140 | 217=>147 | 225=>176 | 224=>177 | 267=>178 | 266=>183 | 314=>203 | n=>n,fun | 9=>9 | 3=>3 | 4=>4 | 5=>5 | 46=>215 | 146=>249 | 51=>136 | n=>n,fun | 1=>0 | n=>n⟩
theorem Tryz.O0:Go.Proofs.Lays.n143 Tryz.prog Tryz.AN:={
 mixed:=by kernel_rfl
 f143:= Tryz.func65.trans (congrArg some (by kernel_rfl))
 f217:= Tryz.func147.trans (congrArg some (by kernel_rfl))
 f219:= Tryz.func140.trans (congrArg some (by kernel_rfl))
 f224:= Tryz.func177.trans (congrArg some (by kernel_rfl))
 f225:= Tryz.func176.trans (congrArg some (by kernel_rfl))
 f266:= Tryz.func183.trans (congrArg some (by kernel_rfl))
 f267:= Tryz.func178.trans (congrArg some (by kernel_rfl))
 f314:= Tryz.func203.trans (congrArg some (by kernel_rfl))
 t3:= Tryz.underlying3
 a3:= Tryz.isAgg3
 z3:= Tryz.sizeOf3
 v3:= Tryz.zeroValue3
 t4:= Tryz.underlying4
 a4:= Tryz.isAgg4
 z4:= Tryz.sizeOf4
 v4:= Tryz.zeroValue4
 t5:= Tryz.underlying5
 a5:= Tryz.isAgg5
 z5:= Tryz.sizeOf5
 v5:= Tryz.zeroValue5
 t9:= Tryz.underlying9
 a9:= Tryz.isAgg9
 z9:= Tryz.sizeOf9
 v9:= Tryz.zeroValue9
 t46:= Tryz.underlying215
 a46:= Tryz.isAgg215
 z46:= Tryz.sizeOf215
 v46:= Tryz.zeroValue215
 t51:= Tryz.underlying136
 a51:= Tryz.isAgg136
 z51:= Tryz.sizeOf136
 v51:= Tryz.zeroValue136
 t146:= Tryz.underlying249
 a146:= Tryz.isAgg249
 z146:= Tryz.sizeOf249
 v146:= Tryz.zeroValue249
 g1:=by kernel_rfl}
def Tryz.Cy:Go.Shelf.Ren:=⟨fun | 138=>151 | 195=>185 | 218=>187 | 143=>65 | 219=>140 | 217=>147 | 225=>176 | 224=>177 | 267=>178 | 266=>183 | 314=>203 | n=>n,fun | 9=>9 | 3=>3 | 4=>4 | 5=>5 | 0=>0 | 46=>215 | 146=>249 | 51=>136 | n=>n,fun | 1=>0 | n=>n⟩
theorem Tryz.Px:Go.Proofs.Lays.n138 Tryz.prog Tryz.Cy:={
 mixed:=by kernel_rfl
 f138:= Tryz.func151.trans (congrArg some (by kernel_rfl))
 f143:= Tryz.func65.trans (congrArg some (by kernel_rfl))
 f195:= Tryz.func185.trans (congrArg some (by kernel_rfl))
 f217:= Tryz.func147.trans (congrArg some (by kernel_rfl))
 f218:= Tryz.func187.trans (congrArg some (by kernel_rfl))
 f219:= Tryz.func140.trans (congrArg some (by kernel_rfl))
 f224:= Tryz.func177.trans (congrArg some (by kernel_rfl))
 f225:= Tryz.func176.trans (congrArg some (by kernel_rfl))
 f266:= Tryz.func183.trans (congrArg some (by kernel_rfl))
 f267:= Tryz.func178.trans (congrArg some (by kernel_rfl))
 f314:= Tryz.func203.trans (congrArg some (by kernel_rfl))
 t0:= Tryz.underlying0
 a0:= Tryz.isAgg0
 z0:= Tryz.sizeOf0
 v0:= Tryz.zeroValue0
 t3:= Tryz.underlying3
 a3:= Tryz.isAgg3
 z3:= Tryz.sizeOf3
 v3:= Tryz.zeroValue3
 t4:= Tryz.underlying4
 a4:= Tryz.isAgg4
 z4:= Tryz.sizeOf4
 v4:= Tryz.zeroValue4
 t5:= Tryz.underlying5
 a5:= Tryz.isAgg5
 z5:= Tryz.sizeOf5
 v5:= Tryz.zeroValue5
 t9:= Tryz.underlying9
 a9:= Tryz.isAgg9
 z9:= Tryz.sizeOf9
 v9:= Tryz.zeroValue9
 t46:= Tryz.underlying215
 a46:= Tryz.isAgg215
 z46:= Tryz.sizeOf215
 v46:= Tryz.zeroValue215
 t51:= Tryz.underlying136
 a51:= Tryz.isAgg136
 z51:= Tryz.sizeOf136
 v51:= Tryz.zeroValue136
 t146:= Tryz.underlying249
 a146:= Tryz.isAgg249
 z146:= Tryz.sizeOf249
 v146:= Tryz.zeroValue249
 g1:=by kernel_rfl}
def Tryz.AA:Go.Shelf.Ren:=⟨fun | 137=>83 | 217=>147 | 266=>183 | n=>n,fun | 9=>9 | 5=>5 | 3=>3 | n=>n,fun | n=>n⟩
theorem Tryz.Oz:Go.Proofs.Lays.n137 Tryz.prog Tryz.AA:={
 mixed:=by kernel_rfl
 f137:= Tryz.func83.trans (congrArg some (by kernel_rfl))
 f217:= Tryz.func147.trans (congrArg some (by kernel_rfl))
 f266:= Tryz.func183.trans (congrArg some (by kernel_rfl))
 t3:= Tryz.underlying3
 a3:= Tryz.isAgg3
 z3:= Tryz.sizeOf3
 v3:= Tryz.zeroValue3
 t5:= Tryz.underlying5
 a5:= Tryz.isAgg5
 z5:= Tryz.sizeOf5
 v5:= Tryz.zeroValue5
 t9:= Tryz.underlying9
 a9:= Tryz.isAgg9
 z9:= Tryz.sizeOf9
 v9:= Tryz.zeroValue9}
def Tryz.UB:Go.Shelf.Ren:=⟨fun | 99=>26 | 206=>67 | n=>n,fun | 9=>9 | 4=>4 | 3=>3 | n=>n,fun | n=>n⟩
def Tryz.Cn:Go.Shelf.Ren:=⟨fun | 100=>40 | 207=>81 | n=>n,fun | 9=>9 | 4=>4 | 3=>3 | n=>n,fun | n=>n⟩
theorem Tryz.Oe:Go.Proofs.Lays.n100 Tryz.prog Tryz.Cn:={
 mixed:=by kernel_rfl
 f100:= Tryz.func40.trans (congrArg some (by kernel_rfl))
 f207:= Tryz.func81.trans (congrArg some (by kernel_rfl))
 t3:= Tryz.underlying3
 a3:= Tryz.isAgg3
 z3:= Tryz.sizeOf3
 v3:= Tryz.zeroValue3
 t4:= Tryz.underlying4
 a4:= Tryz.isAgg4
 z4:= Tryz.sizeOf4
 v4:= Tryz.zeroValue4
 t9:= Tryz.underlying9
 a9:= Tryz.isAgg9
 z9:= Tryz.sizeOf9
 v9:= Tryz.zeroValue9}
def Tryz.Cx:Go.Shelf.Ren:=⟨fun | 102=>42 | 209=>84 | 207=>81 | n=>n,fun | 9=>9 | 4=>4 | 3=>3 | n=>n,fun | n=>n⟩
theorem Tryz.N1:Go.Proofs.Lays.n102 Tryz.prog Tryz.Cx:={
 mixed:=by kernel_rfl
 f102:= Tryz.func42.trans (congrArg some (by kernel_rfl))
 f207:= Tryz.func81.trans (congrArg some (by kernel_rfl))
 f209:= Tryz.func84.trans (congrArg some (by kernel_rfl))
 t3:= Tryz.underlying3
 a3:= Tryz.isAgg3
 z3:= Tryz.sizeOf3
 v3:= Tryz.zeroValue3
 t4:= Tryz.underlying4
 a4:= Tryz.isAgg4
 z4:= Tryz.sizeOf4
 v4:= Tryz.zeroValue4
 t9:= Tryz.underlying9
 a9:= Tryz.isAgg9
 z9:= Tryz.sizeOf9
 v9:= Tryz.zeroValue9}
end Go.Proofs
end
section
set_option maxRecDepth 100000
set_option maxHeartbeats 4000000
namespace Go.Proofs.YtchiinjiflgepaaGreatDoor
open Go.AF
open Go.Proofs
theorem JL:(2,Lib.pow10Tab.map (PV.int .u64))∈nN Tryz.prog:=by
 have e:(nN Tryz.prog)[2]? =some (2,Lib.pow10Tab.map (PV.int .u64)):=by kernel_rfl
 exact Zi e
theorem PL:(3,BO.map (PV.int .u8))∈nN Tryz.prog:=by
 have e:(nN Tryz.prog)[1]? =some (3,BO.map (PV.int .u8)):=by kernel_rfl
 exact Zi e
theorem EO(n:Int)(h0:0<=n)(h1:n<10000000000000):Pure Tryz.prog 25 [.int .i64 n] (.str (sB (Lib.itoa n))):=
 Pure.y3 (us:=[.int .i64 n]) (fun w I vs h=>by
  obtain⟨u,us,rfl,h2,h3⟩:=h
  have h2:u= .int .i64 n:=h2
  have h3:us=[]:=h3
  rw[h2,h3]) fun w I hg=>(Any.strconv_Itoa Tryz.JZ n (by omega) (by omega) w (UY (g:=2) hg JL (by kernel_rfl))).mono fun e w' ⟨h1,k,os,h2⟩=>⟨_,h1,fun _ _=>rfl,k,os,h2⟩
theorem Bt{a b:ByteArray}:∀(w:World) (I:Nat->Prop) (vs:List Value),aW w I [.str a,.str b] vs->vs=[.string a,.string b]:=fun w I vs h=>by
 obtain⟨u0,vs0,rfl,k0,u1,Sf,rfl,k1,k2⟩:=h
 have k0:u0= .string a:=k0
 have k1:u1= .string b:=k1
 have k2:Sf=[]:=k2
 rw[k0,k1,k2]
theorem mR(s t:Bs)(hs:s.length<=9223372036854775807):Pure Tryz.prog 40 [.str (sB s),.str (sB t)] (.bool (t.isSuffixOf s)):=
 Pure.y3 (us:=[.string (sB s),.string (sB t)]) Bt fun w I hg=>(Any.strings_HasSuffix Tryz.Oe (sB s) (sB t) w (by rw[cF];exact hs)).mono fun e w' ⟨h1,h2⟩=>⟨_,h1,fun _ _=>by show Value.bool _=_;rw[iu,iu];rfl,0,#[],by rw[h2,Go.Sort.grow_empty];rfl⟩
theorem xp(s t:Bs)(hs:s.length<=9223372036854775807):Pure Tryz.prog 42 [.str (sB s),.str (sB t)] (.str (sB (Lib.trimSuffix s t))):=
 Pure.y3 (us:=[.string (sB s),.string (sB t)]) Bt fun w I hg=>(Any.strings_TrimSuffix Tryz.N1 (sB s) (sB t) w (by rw[cF];exact hs)).mono fun e w' ⟨h1,h2⟩=>⟨_,h1,fun _ _=>by show Value.string _=_;rw[iu,iu];rfl,0,#[],by rw[h2,Go.Sort.grow_empty];rfl⟩
theorem zv(s:Bs)(c:UInt8):Pure Tryz.prog 83 [.str (sB s),.int .u8 (c.toNat:Int)] (.int .i64 (Lib.indexByte s c)):=
 Pure.y3 (us:=[.string (sB s),.int .u8 (c.toNat:Int)]) (fun w I vs h=>by
  obtain⟨u0,vs0,rfl,k0,u1,Sf,rfl,k1,k2⟩:=h
  have k0:u0= .string (sB s):=k0
  have k1:u1= .int .u8 (c.toNat:Int):=k1
  have k2:Sf=[]:=k2
  rw[k0,k1,k2]) fun w I hg=>(Any.strings_IndexByte Tryz.Oz (sB s) (c.toNat:Int) w).mono fun e w' ⟨h1,h2⟩=>⟨_,h1,fun _ _=>by
   show Value.int _ _=_
   rw[iu,CR,show c.toNat.toUInt8=c from by simp],0,#[],by rw[h2,Go.Sort.grow_empty];rfl⟩
theorem yQ(w:World)(I:Nat->Prop):∀ ss:List ByteArray,aW w I (ss.map PV.str) (ss.map Value.string)
 | []=>rfl
 | x::xs=>⟨_,_,rfl,rfl,yQ w I xs⟩
theorem Pure.VT{f:FuncId}{us:List Value}{args:List PV}{ss:List ByteArray}{t:TypeId}(cT:∀ w I vs,aW w I args vs->vs=us)(h:∀(w:World) (I:Nat->Prop),MJ Tryz.prog w I->Calls Tryz.prog f us.toArray w fun e w'=>e= .returned (.slice (some ⟨w.heap.size,0,none⟩) ss.length ss.length)∧w'=w.alloc (.cells (ss.map Value.string).toArray t)):Pure Tryz.prog f args (.is (ss.map PV.str) ss.length):=by
 intro w I ρ vs hi hvs
 have e:=cT w I vs (aj.pure.1 hvs)
 subst e
 refine CallsIn.mono ((callsIn_wide (n:=0)).2 (h w I hi.gl)) ?_
 rintro e w' ⟨rfl,rfl⟩
 refine⟨_,.p _,fun b=>I b∨b=w.heap.size,ρ,[],rfl,⟨rfl,rfl⟩,Ext.iO hi _,hi.iO _,?_⟩
 refine .inr ⟨w.heap.size,0,ss.length,fun _=> .inr rfl,Zg _,rfl,?_⟩
 refine aY.mK (ss.map PV.str) (ss.map Value.string) 0 ?_ ?_
 ·exact yQ _ _ ss
 ·intro j u hu
  have e:(w.alloc (.cells (ss.map Value.string).toArray t)).heap[w.heap.size]? =some (.cells (ss.map Value.string).toArray t):=Array.getElem?_push_size
  unfold World.cell?
  simp only[e,tZ]
  simpa using hu
theorem Co{c:UInt8}(ws:List Bs)(h0:0<ws.length)(h:∀ x∈ws,NT c x)(hs:(dA c ws).length<=1000000):Pure Tryz.prog 89 [.str (sB (dA c ws)),.str (sB [c]),.int .i64 0,.int .i64 (-1)] (.is ((ws.map sB).map PV.str) (ws.map sB).length):=by
 refine Pure.VT (us:=[.string (sB (dA c ws)),.string (sB [c]),.int .i64 0,.int .i64 (-1)]) (t:=9) (fun w I vs h=>by
  obtain⟨u0,vs0,rfl,k0,u1,Sf,rfl,k1,u2,vs2,rfl,k2,u3,vs3,rfl,k3,k4⟩:=h
  have k0:u0= .string (sB (dA c ws)):=k0
  have k1:u1= .string (sB [c]):=k1
  have k2:u2= .int .i64 0:=k2
  have k3:u3= .int .i64 (-1):=k3
  have k4:vs3=[]:=k4
  rw[k0,k1,k2,k3,k4]) fun w I hg=> ?_
 have hsz:(sB (dA c ws)).size<=1000000:=by rw[cF];exact hs
 have hL:=Lt ws h0 h
 have hcn:=KF ws h0 h
 have hle:=Cm (c:=c) ws
 have k:=Any.strings_genSplit_core Tryz.Oy (by kernel_rfl) (sB (dA c ws)) (sB [c]) 0 (-1) ws.length w (by omega) (by show 1<=1;decide) (Zn _)
  (fun x cc hx=>(Any.strings_Index_one Tryz.O0 x c _).mono fun e w' ⟨h1,h2⟩=>⟨by rw[h1];show _=Ending.returned (.int .i64 (Lib.index x.data.toList (sB [c]).data.toList));rw[iu,Lib.index_one],h2⟩)
  ((Any.strings_Count_one Tryz.Px (sB (dA c ws)) c w).mono fun e w' ⟨h1,h2⟩=>⟨by rw[h1];show _=Ending.returned (.int .i64 ((Lib.count (sB (dA c ws)).data.toList [c]:Nat):Int));rw[Lib.count_one];rfl,h2⟩) (by decide) (by decide)
  (by rw[if_pos (by decide),hcn,cF];push_cast;omega)
 refine k.mono fun e w' ⟨h1,h2⟩=> ?_
 rw[hL] at h1 h2
 refine⟨?_,?_⟩
 ·rw[h1];simp
 ·rw[h2,show ws.length=(ws.map sB).length by simp,Lib.cellsOf_full];rfl
theorem Ip(ws:List Bs):PV.is ((ws.map sB).map PV.str) (ws.map sB).length=fS ws:=by
 unfold fS
 rw[Zr,QI]
 congr 1
 induction ws with
 | nil=>rfl
 | cons x xs ih=>rw[ZE,ZJ,ih];rfl
theorem abM:Go.Proofs.Builder.Extra Tryz.prog Tryz.tR where
 sizeBuilder:=by kernel_rfl
 liesBuilder:=by kernel_rfl
 t5:= Tryz.underlying5
 a5:=run_isAgg_plain Tryz.underlying5 rfl
 z5:= Tryz.sizeOf5
 v5:= Tryz.zeroValue5
 infoByte:=by kernel_rfl
 cellsByte:=by kernel_rfl
 sizeByte:=by kernel_rfl
 neB5:=by decide
theorem uS{w:World}{I:Nat->Prop}:∀(ss:List ByteArray) (b o:Nat),aY w I (ss.map PV.str) b o->∀(j:Nat) x,ss[j]? =some x->w.cell? ⟨b,o+j,none⟩=some (.string x)
 | [],_,_,_,j,x,h=>by simp at h
 | y::ss,b,o,⟨⟨u,h1,h2⟩,h3⟩,j,x,h=>by
  cases j with
  | zero=>
   have h2:u= .string y:=h2
   simp at h
   rw[<- h,<- h2];exact h1
  | succ j=>
   have:=uS ss b (o+1) h3 j x (by simpa using h)
   rwa [show o+1+j=o+(j+1) by omega] at this
theorem oN(ws:List Bs)(c:UInt8)(h0:0<ws.length)(hl:ws.length<=1000000)(hs:(dA c ws).length<=1000000):Pure Tryz.prog 85 [fS ws,.str (sB [c])] (.str (sB (dA c ws))):=by
 rw[<- Ip]
 intro w I ρ vs hi hvs
 obtain⟨u0,vs0,rfl,k0,u1,Sf,rfl,k1,k2⟩:=aj.pure.1 hvs
 have k1:u1= .string (sB [c]):=k1
 have k2:Sf=[]:=k2
 subst k1 k2
 have hlen:(ws.map sB).length=ws.length:=Zr ..
 rcases k0 with⟨_,h⟩ | ⟨b,o,cap,hI,hcap,rfl,fD⟩
 ·omega
 ·have hne:(ws.map sB).map PV.str≠[]:=by intro e;have:=congrArg List.length e;simp at this;rw[this] at h0;cases h0
  have hbI:=hI hne
  have hj:Lib.join ((ws.map sB).map (·.data.toList)) (sB [c]).data.toList=dA c ws:=by
   rw[iu,QI,show((fun x:ByteArray=>x.data.toList)∘sB)=id from funext iu,List.map_id,ID]
  refine CallsIn.mono ((callsIn_wide (n:=0)).2 (Any.strings_Join Tryz.P9 abM b o cap (ws.map sB) (sB [c]) w (uS _ _ _ fD) (hi.ib _ hbI) (by omega) hcap (by rw[hj];omega))) ?_
  rintro e w' ⟨rfl,hb⟩
  obtain⟨h1,h2⟩:=Ext.below hi hb
  refine⟨_,.p _,I,ρ,[],rfl,⟨rfl,rfl⟩,h1,h2,?_⟩
  show Value.string _=_
  rw[hj]
  rfl
end Go.Proofs.YtchiinjiflgepaaGreatDoor
end
section
set_option maxRecDepth 100000
set_option maxHeartbeats 4000000
namespace Go.Proofs.YtchiinjiflgepaaGreatDoor
open Go.AF
theorem vL(e:Int):Pure Tryz.prog 53 [.bool true,.int .i64 e] (.tuple []):=by
 refine Kf (N:=9) Tryz.func53 ?_
 iterate 5 refine af ?_
 refine aC.aU rfl ?_
 refine af ?_
 exact⟨.inl rfl,fE.none_ rfl⟩
theorem Qa(e:Int):tC Tryz.prog 53 [.bool false,.int .i64 e] (.iface 106 (.agg [.int .i64 e])):=by
 refine aD.start (N:=9) Tryz.func53 rfl rfl Kn ?_
 iterate 5 refine af ?_
 refine aC.iC rfl ?_
 iterate 3 refine af ?_
 refine Kc (aa.aJ rfl rfl Mk) ?_
 refine aq.panic rfl rfl rfl ?_
 exact⟨_,rfl,rfl⟩
theorem dQ(b:Bool)(e:Int)(hb:b=true):Pure Tryz.prog 53 [.bool b,.int .i64 e] (.tuple []):=by subst hb;exact vL e
theorem dU(b:Bool)(e:Int)(hb:b=false):tC Tryz.prog 53 [.bool b,.int .i64 e] (.iface 106 (.agg [.int .i64 e])):=by subst hb;exact Qa e
theorem kR(e:Int)(he:decide (e=0)=true):Pure Tryz.prog 99 [.int .i64 e] (.tuple []):=by
 refine Kf (N:=6) Tryz.func99 ?_
 iterate 4 refine af ?_
 refine aq.cG 5 (b:=(decide (e=0))) (dQ (decide (e=0)) e) (dU (decide (e=0)) e) rfl rfl rfl rfl rfl rfl rfl ai (fun hb=> ?_) (fun hb=> ?_)
 ·rw[he] at hb
  cases hb
 refine af ?_
 exact⟨.inl rfl,fE.none_ rfl⟩
theorem oK(e:Int)(he:decide (e=0)=false):tC Tryz.prog 99 [.int .i64 e] (.iface 106 (.agg [.int .i64 e])):=by
 refine aD.start (N:=6) Tryz.func99 rfl rfl Kn ?_
 iterate 4 refine af ?_
 refine aq.cG 5 (b:=(decide (e=0))) (dQ (decide (e=0)) e) (dU (decide (e=0)) e) rfl rfl rfl rfl rfl rfl rfl ai (fun hb=> ?_) (fun hb=> ?_)
 ·exact⟨_,rfl,rfl⟩
 rw[he] at hb
 cases hb
theorem Qu(l:List Int)(k:Nat)(hk:k=l.length)(h2:2<=l.length):Pure Tryz.prog 153 [.is (l.flatMap Di.bG) k] (.agg [.int .i64 (nn l 0),.int .i64 (nn l 1)]):=by
 subst hk
 refine Kf (N:=10) Tryz.func153 ?_
 iterate 5 refine af ?_
 refine aC.az 7 mixed (by kernel_rfl) (by decide) ?_
 refine af ?_
 refine Kq (aa.aB (g:=Di.gt 0 l) (k:=0) (Di.av _) rfl rfl rfl ai bB rfl (fun _=>rfl) (by decide) (by omega)) ?_
 refine Kq (Kl (.p (.int .i64 (nn l 0)))) ?_
 refine af ?_
 refine Kq (aa.aB (g:=Di.gt 0 l) (k:=1) (Di.av _) rfl rfl rfl ai bB rfl (fun _=>rfl) (by decide) (by omega)) ?_
 refine Kq (Kl (.p (.int .i64 (nn l 1)))) ?_
 refine Kq (aa.build rfl ai rfl rfl) ?_
 refine ay.nil ?_
 iterate 3 refine af ?_
 exact B0
theorem E9(a b:Int):Pure Tryz.prog 155 [.int .i64 a,.int .i64 b] (.agg (bf a b).cells):=by
 refine Kf (N:=10) Tryz.func155 ?_
 iterate 14 refine af ?_
 exact B0
theorem Pj(n k:Nat)(h0:0<n)(h:n<2^32)(hl:n&&& (2^64 - n)=2^k)(hk:k<64):Pure Tryz.prog 197 [.int .u64 (n:Int)] (.int .i64 ((k:Nat):Int)):=by
 have hT:(BO.map (PV.int .u8))[(((2^k*285870213051353865%18446744073709551616 / 2^58:Nat):Int)).toNat*1]? =some (.int .u8 ((k:Nat):Int)):=by rw[Ig,CR,Zt,J8 k hk];rfl
 refine Kf (N:=14) Tryz.func197 ?_
 iterate 10 refine af ?_
 refine Ki (fun hc0=> ?_) fun hc0=> ?_
 ·exfalso
  simp at hc0
  omega
 ·iterate 5 refine af ?_
  refine Kc (aa.neg (m:=((2^64 - n:Nat):Int)) rfl rfl ?_) ?_
  ·exact Wf h0 h
  refine Kc (aa.qi n (2^64 - n) rfl rfl rfl (by first | (show _<=(9223372036854775807:Int);omega) | (show _<=(4294967295:Int);omega) | (show _<=(18446744073709551615:Int);omega) | (show _<=(255:Int);omega) | (show _<=(65535:Int);omega)) (by first | decide | (show _<=(9223372036854775807:Int);omega) | (show _<=(4294967295:Int);omega) | (show _<=(18446744073709551615:Int);omega) | (show _<=(255:Int);omega) | (show _<=(65535:Int);omega))) ?_
  rw[hl]
  refine Kc (aa.mul (m:=((2^k*285870213051353865%18446744073709551616:Nat):Int)) rfl rfl rfl ?_) ?_
  ·exact UF k
  refine Kc (aa.xj (2^k*285870213051353865%18446744073709551616) 58 rfl rfl rfl (by first | decide | (show _<=(9223372036854775807:Int);omega) | (show _<=(4294967295:Int);omega) | (show _<=(18446744073709551615:Int);omega) | (show _<=(255:Int);omega) | (show _<=(65535:Int);omega))) ?_
  refine Kc (aa.yq (RF:=BO.map (PV.int .u8)) PL rfl rfl Yh aaN (by omega) (by omega)) ?_
  exact St
theorem NB(n k:Nat)(h0:0<n)(h:n<2^32)(hl:n&&& (2^64 - n)=2^k)(hk:k<64):Pure Tryz.prog 158 [.int .u64 (n:Int)] (.int .i64 ((k:Nat):Int)):=by
 refine Kf (N:=8) Tryz.func158 ?_
 iterate 5 refine af ?_
 refine aC.aU rfl ?_
 iterate 4 refine af ?_
 refine Kc (Kp (Pj n k h0 h hl hk)) ?_
 exact mc
theorem pX(n:Nat)(hn:n<2^24):Pure Tryz.prog 100 [.int .i64 (n:Int)] (Di.aQ (gw n)):=by
 have ja:(2:Nat)^24=16777216:=by decide
 have h32:(2:Nat)^32=4294967296:=by decide
 have abR:n<2^32:=by omega
 refine Kf (N:=19) Tryz.func100 ?_
 iterate 12 refine af ?_
 refine Kc (aa.dP rfl rfl (by rw[y4];rfl) BL (oo ?_)) ?_
 ·omega
 iterate 3 refine af ?_
 refine aC.dw [2,18] (fun g=>[(4,.p (.int .u64 ((Rx.qL n g:Nat):Int))),(3,gP 0 (bl n g).length)]) (fun g=>[dG (((bl n g).flatMap Di.bG).map .p) 3 (bl n g).length]) (fun g=>g<=32) (fun g=>32 - g) 0 (Zn _) (To.pad.trans (To.sub (Sub.tO (Sub.cons (by show some (V.p (.int .u64 ((n:Nat):Int)))=_;rw[Rx.D5]) (Sub.cons rfl Sub.nil))))) (fun p hp=> ?_)
 have hle:=Rx.Tf n p
 iterate 6 refine af ?_
 refine Ki (fun hc0=> ?_) fun hc0=> ?_
 ·have hne:Rx.qL n p≠0:=by intro h;rw[h] at hc0;simp at hc0
  obtain⟨k,hpk,U2,hlow,U9,KJ⟩:=Rx.EB abR hp hne
  iterate 6 refine af ?_
  refine Kc (Kp (NB (Rx.qL n p) k (by omega) (by omega) (X9 hne (by omega) hlow) (by omega))) ?_
  refine Kc (aa.aF rfl ai (by decide) rfl rfl rfl) ?_
  refine Kc (aa.fV rfl rfl rfl ai ai rfl ?_ rfl (by decide) rfl ai (by decide) ?_) ?_
  ·exact xY
  ·have:=Wk n p;show(2*((bl n p).length+1)+192)*8<=281474976710656;omega
  iterate 5 refine af ?_
  refine Kc (aa.ec (m:=((Rx.qL n p - 1:Nat):Int)) rfl rfl rfl ((oo ?_).trans ?_)) ?_
  ·omega
  ·omega
  refine Kc (aa.qi (Rx.qL n p) (Rx.qL n p - 1) rfl rfl rfl (by first | (show _<=(9223372036854775807:Int);omega) | (show _<=(4294967295:Int);omega) | (show _<=(18446744073709551615:Int);omega) | (show _<=(255:Int);omega) | (show _<=(65535:Int);omega)) (by first | decide | (show _<=(9223372036854775807:Int);omega) | (show _<=(4294967295:Int);omega) | (show _<=(18446744073709551615:Int);omega) | (show _<=(255:Int);omega) | (show _<=(65535:Int);omega))) ?_
  iterate 2 refine af ?_
  refine⟨k+1,?_,?_,?_⟩
  ·show k+1<=32
   omega
  ·show 32 - (k+1)<32 - p
   omega
  have WX:(bl n (k+1)).length=(bl n p).length+1:=by unfold bl;rw[KJ];simp
  have eL:(bl n (k+1)).flatMap Di.bG=(bl n p).flatMap Di.bG++[.int .i64 (k:Int)]:=by unfold bl;rw[KJ];simp[Di.bG]
  rw[WX,eL]
  refine To.done [1] rfl (Sub.cons (by show some (V.p (.int .u64 _))=_;rw[U9]) KS) ?_
  show[ak.row (bE _ (_++_)) _]=[ak.row _ _]
  rw[bI,aP,Zy]
  rfl
 ·have hz:Rx.qL n p=0:=by have h:((Rx.qL n p:Nat):Int)=0:=(by simpa using hc0);omega
  have hall:=Rx.FL hp hz
  refine aC.to (To.MX 3 0 (bl n p).length (xs:=(bl n p).flatMap Di.bG) rfl rfl (fun h=>by rw[Kd.1 h];rfl)) ?_
  refine aC.exit ?_
  iterate 6 refine af ?_
  refine Fin.cY rfl rfl ?_
  rw[Hu hn,hall]
  rfl
theorem yA(s:Bs)(hs:s.length<=1000000):aD Tryz.prog 112 [.p (.str (sB s))] [] (fun v H2=>iK s∧v= .p (.int .i64 (gh s))∧H2=[]) (fun y H2=>¬ iK s∧y=(.iface 106 (.agg [.int .i64 8]))∧H2=[]):=by
 refine aD.start (N:=44) Tryz.func112 rfl rfl Kn ?_
 iterate 7 refine af ?_
 refine Kc (aa.BV s [] rfl rfl rfl) ?_
 refine af ?_
 refine Kg 8 7 0 rfl (fun h=>(aa.move rfl rfl)) ?_
 refine Kh 9 7 8 rfl rfl rfl rfl (fun h=>(aa.eF rfl rfl w9)) ?_
 refine Kh 10 7 9 rfl rfl rfl rfl (fun h=>(aa.leq rfl rfl rfl)) ?_
 refine Kc (aa.gy rfl rfl rfl ?_) ?_
 ·exact fO
 refine af ?_
 refine Kg 13 12 0 rfl (fun h=>(aa.move rfl rfl)) ?_
 refine Kh 14 12 13 rfl rfl rfl rfl (fun h=>(aa.aK s [48] rfl rfl rfl)) ?_
 refine Kh 15 12 14 rfl rfl rfl rfl (fun h=>(aa.move rfl rfl)) ?_
 refine Kg 16 15 0 rfl (fun h=>(aa.move rfl rfl)) ?_
 refine Kh 17 15 16 rfl rfl rfl rfl (fun h=>(aa.vZ s 0 (Di.gt 0 s 0) rfl rfl rfl ai (by have h2:=(Bool.and_eq_true_iff.1 h).1;have h3:=(Bool.and_eq_true_iff.1 (eq_of_beq h2)).1;have h4:s≠[]:=(by simpa using h3);have h5:=XE.2 h4;rw[Zb h5,Di.av 0 0 h5]))) ?_
 refine Kh 18 15 17 rfl rfl rfl rfl (fun h=>(aa.neq rfl rfl rfl)) ?_
 refine aq.g 19 12 rfl rfl rfl rfl rfl rfl rfl [(15,_),(18,_)] (fun h=>And.intro (.inr ⟨_,rfl,h⟩) (And.intro (.inl rfl) (trivial))) (fun h=>(aa.lE rfl rfl rfl ?_)) ?_
 ·exact fO
 refine Kc (aa.gy rfl rfl rfl ?_) ?_
 ·exact fO
 refine aq.cG 21 (b:=_) (dQ _ 8) (dU _ 8) rfl rfl rfl rfl rfl rfl rfl ai (fun hb=> ?_) (fun hb=> ?_)
 ·exact⟨_,rfl,(Z1 hb).2 rfl,rfl,rfl⟩
 have hy:=(Z1 hb).1 rfl
 have Xm:=hy.2.1
 iterate 5 refine af ?_
 refine Kc (aa.isR (aa.Mq s rfl rfl ai ai) (Fl s)) ?_
 iterate 4 refine af ?_
 refine aC.dw [23,24,43] (fun g=>[(25,.p (.int .i64 ((g:Nat):Int))),(2,.p (.int .i64 ((mQ (s.take g):Nat):Int)))]) (fun g=>[]) (fun g=>g<=s.length∧∀ j,j<g->qw (Di.gt 0 s j)=true) (fun g=>s.length - g) 0 ⟨Zn _,fun j hj=>absurd hj (by omega)⟩ (To.sub (Sub.tO (Sub.cons rfl (Sub.cons rfl (Sub.nil))))) (fun i ⟨pQ,jM⟩=> ?_)
 iterate 5 refine af ?_
 refine Ki (fun hc0=> ?_) fun hc0=> ?_
 ·have hk0:i<s.length:=by have h:=Ze hc0;omega
  have hb9:=(Di.gt 0 s i).toNat_lt
  iterate 5 refine af ?_
  refine Kc (aa.aB (g:=Di.gt 0 s) (Di.av _) rfl rfl rfl ai acR rfl (fun _=>rfl) (by decide) hk0) ?_
  refine Kc (Kl (.p (.int .u8 (((Di.gt 0 s i)).toNat:Int)))) ?_
  iterate 7 refine af ?_
  refine Kg 32 31 4 rfl (fun h=>(aa.move rfl rfl)) ?_
  refine Kh 33 31 32 rfl rfl rfl rfl (fun h=>(aa.leq rfl rfl rfl)) ?_
  refine Kc (aa.gy rfl rfl rfl ?_) ?_
  ·exact fO
  refine aq.cG 35 (b:=_) (dQ _ 8) (dU _ 8) rfl rfl rfl rfl rfl rfl rfl ai (fun iY=> ?_) (fun iY=> ?_)
  ·exact⟨_,rfl,EC hk0 (JY iY),rfl,rfl⟩
  have XF:=JY iY
  have hdd:=vW XF
  have hvs:=vJ hk0
  have hv:=vN (s:=s) (i:=i) (by omega) Xm jM
  iterate 3 refine af ?_
  refine Kc (aa.mul (m:=((10*mQ (s.take i):Nat):Int)) rfl rfl rfl ((aA ?_).trans ?_)) ?_
  ·omega
  ·omega
  refine af ?_
  refine Kc (aa.ec (m:=((((Di.gt 0 s i)).toNat - 48:Nat):Int)) rfl rfl rfl ((aaZ ?_).trans ?_)) ?_
  ·omega
  ·omega
  refine Kc (aa.dP rfl rfl (by rw[un5];rfl) y4 (aA ?_)) ?_
  ·omega
  refine Kc (aa.add (m:=((mQ (s.take (i+1)):Nat):Int)) rfl rfl rfl ((aA ?_).trans ?_)) ?_
  ·omega
  ·omega
  iterate 3 refine af ?_
  refine Kc (aa.add rfl rfl rfl (aA ?_)) ?_
  ·omega
  iterate 2 refine af ?_
  refine⟨i+1,?_,?_,?_⟩
  ·exact TI
  ·omega
  exact Bz
 ·have hi2:i=s.length:=by have h:=Zf hc0;omega
  subst hi2
  have hC:=Ma hy jM
  have hyes:=uh hC
  refine aC.exit ?_
  iterate 6 refine af ?_
  refine jt.one (v:= .p (.int .i64 ((mQ (s.take s.length):Nat):Int))) rfl rfl ⟨hC,?_,rfl⟩
  unfold gh
  rw[hyes,ZT]
  rfl
instance (s:Bs):Decidable (iK s):=by unfold iK;infer_instance
theorem AK(s:Bs)(hs:s.length<=1000000)(h:decide (iK s)=true):Pure Tryz.prog 112 [.str (sB s)] (.int .i64 (gh s)):=
 ((yA s hs).mono (Qr':=fun v H2=>v= .p (.int .i64 (gh s))∧H2=[]) (Qp':=fun _ _=>False) (fun v H2 ⟨_,h1,h2⟩=>⟨h1,h2⟩) (fun y H2 ⟨h1,_⟩=>h1 (Ze h))).toC (fun _ _ h=>h)
theorem MU(s:Bs)(hs:s.length<=1000000)(h:decide (iK s)=false):tC Tryz.prog 112 [.str (sB s)] (.iface 106 (.agg [.int .i64 8])):=
 (yA s hs).mono (fun v H2 ⟨h1,_⟩=>Zf h h1) (fun y H2 ⟨_,h1,_⟩=>h1)
def jD.v:jD->PV
 | .str w=> .iface 9 (.str (sB w))
 | .num k=> .iface 3 (.int .i64 k)
 | .DT l=> .iface 39 (Di.aQ l)
def jD.v1(p:jD):List PV:=[p.v]
def aas(l:List jD):PV:= .is (l.flatMap jD.v1) l.length
theorem acf(p:jD):Ee Tryz.prog 9 p.v (.tuple [.str (sB p.sV),.bool p.NV]):=by
 cases p with
 | str l=>exact⟨_,_,rfl,.inl ⟨rfl,rfl⟩⟩
 | num i=>exact⟨_,_,rfl,.inr ⟨rfl,_,ai,rfl⟩⟩
 | DT s=>exact⟨_,_,rfl,.inr ⟨rfl,_,ai,rfl⟩⟩
theorem acM(p:jD):Ee Tryz.prog 3 p.v (.tuple [.int .i64 p.nV,.bool p.isN]):=by
 cases p with
 | str l=>exact⟨_,_,rfl,.inr ⟨rfl,_,ai,rfl⟩⟩
 | num i=>exact⟨_,_,rfl,.inl ⟨rfl,rfl⟩⟩
 | DT s=>exact⟨_,_,rfl,.inr ⟨rfl,_,ai,rfl⟩⟩
theorem acr(p:jD):Ee Tryz.prog 39 p.v (.tuple [p.lV,.bool p.isL]):=by
 cases p with
 | str l=>exact⟨_,_,rfl,.inr ⟨rfl,_,ai,rfl⟩⟩
 | num i=>exact⟨_,_,rfl,.inr ⟨rfl,_,ai,rfl⟩⟩
 | DT s=>exact⟨_,_,rfl,.inl ⟨rfl,rfl⟩⟩
theorem X7{p:jD}(h:p.NV=true):p= .str p.sV:=by cases p <;> first | rfl | cases h
theorem Tj{p:jD}(h:p.isN=true):p= .num p.nV:=by cases p <;> first | rfl | cases h
theorem abb{p:jD}(h:p.isL=true):∃ l,p= .DT l:=by cases p <;> first | exact⟨_,rfl⟩ | cases h
theorem OA{p:jD}(h1:p.NV=false)(h2:p.isN=false)(h3:p.isL=false):False:=by cases p <;> simp_all [jD.NV,jD.isN,jD.isL]
theorem rq(s:Bs)(hs:s.length<=1000000):Pure Tryz.prog 51 [.str (sB s),.str (sB [32])] (fS (bW s)):=by
 have hj:dA 32 (bW s)=s:=wo 32 s []
 have hnb:∀ x∈bW s,NT 32 x:=Ar 32 s [] (fun y hy=>by cases hy)
 have hg:=Co (bW s) (o7 s) hnb (by rw[hj];exact hs)
 rw[hj,Ip] at hg
 refine Kf (N:=8) Tryz.func51 ?_
 iterate 8 refine af ?_
 refine Kc (Kp (hg)) ?_
 exact mc
theorem dJ(ps:List jD)(h0:0<(j7 ps).length)(hn:ps.length<=50)(hok:∀ p∈ps,p.ok):Pure Tryz.prog 43 [aas ps] (.str (sB (dA 32 (j7 ps)))):=by
 have C4:=Ed hok
 have hwB:=aba hok
 refine Kf (N:=51) Tryz.func43 ?_
 iterate 16 refine af ?_
 refine aC.dw [2,11,12,49,50] (fun g=>[(13,.p (.int .i64 ((g:Nat):Int))),(3,gP 0 (j7 (ps.take g)).length)]) (fun g=>[dG ((((j7 (ps.take g))).flatMap jB).map .p) 9 ((j7 (ps.take g))).length]) (fun g=>g<=ps.length) (fun g=>ps.length - g) 0 (Zn _) (To.pad.trans (To.sub (Sub.tO (Sub.cons rfl (Sub.cons rfl Sub.nil))))) (fun i hg=> ?_)
 iterate 5 refine af ?_
 refine Ki (fun hc0=> ?_) fun hc0=> ?_
 ·have hk0:i<ps.length:=by have h:=Ze hc0;omega
  have hpm:=hok _ (Di.aV (.str []) hk0)
  have hwi:=KY ps i
  iterate 5 refine af ?_
  refine Kc (aa.aB (g:=Di.gt (.str []) ps) (Di.av _) rfl rfl rfl ai aaM rfl (fun _=>rfl) (by decide) hk0) ?_
  refine Kc (Kl (.p (Di.gt (.str []) ps i).v)) ?_
  iterate 9 refine af ?_
  refine Kc (aa.taG rfl rfl mO (acf _)) ?_
  iterate 3 refine af ?_
  refine Ki (fun bw=> ?_) fun bw=> ?_
  ·iterate 7 refine af ?_
   refine Kc (aa.aF rfl ai (by decide) rfl rfl rfl) ?_
   refine Kc (aa.fV rfl rfl rfl ai ai rfl ?_ rfl (by decide) rfl ai (by decide) ?_) ?_
   ·exact xY
   ·(try simp only[Zc,Zr]);show(2*(_+1)+192)*16<=281474976710656;omega
   iterate 3 refine af ?_
   refine Kc (aa.add rfl rfl rfl (aA ?_)) ?_
   ·omega
   iterate 2 refine af ?_
   refine⟨i+1,?_,?_,?_⟩
   ·exact hk0
   ·omega
   have eW:(j7 (ps.take (i+1)))=(j7 (ps.take i))++[(Di.gt (.str []) ps i).sV]:=by rw[zJ hk0];(conv=>lhs;rw[X7 bw]);rfl
   have WX:((j7 (ps.take (i+1)))).length=((j7 (ps.take i))).length+1:=by rw[eW,Zc];rfl
   have eL:((j7 (ps.take (i+1)))).flatMap jB=((j7 (ps.take i))).flatMap jB++jB (Di.gt (.str []) ps i).sV:=by rw[eW,ZX];simp
   exact EA
  ·iterate 2 refine af ?_
   refine Kc (aa.taG rfl rfl lD (acM _)) ?_
   iterate 3 refine af ?_
   refine Ki (fun eG=> ?_) fun eG=> ?_
   ·have hkn:0<=(Di.gt (.str []) ps i).nV∧(Di.gt (.str []) ps i).nV<10000000000000:=by rw[Tj eG] at hpm;exact hpm
    iterate 7 refine af ?_
    refine Kc (Kp (EO (Di.gt (.str []) ps i).nV (by omega) (by omega))) ?_
    refine Kc (aa.aF rfl ai (by decide) rfl rfl rfl) ?_
    refine Kc (aa.fV rfl rfl rfl ai ai rfl ?_ rfl (by decide) rfl ai (by decide) ?_) ?_
    ·exact xY
    ·(try simp only[Zc,Zr]);show(2*(_+1)+192)*16<=281474976710656;omega
    iterate 3 refine af ?_
    refine Kc (aa.add rfl rfl rfl (aA ?_)) ?_
    ·omega
    iterate 2 refine af ?_
    refine⟨i+1,?_,?_,?_⟩
    ·exact hk0
    ·omega
    have eW:(j7 (ps.take (i+1)))=(j7 (ps.take i))++[(Lib.itoa (Di.gt (.str []) ps i).nV)]:=by rw[zJ hk0];(conv=>lhs;rw[Tj eG]);rfl
    have WX:((j7 (ps.take (i+1)))).length=((j7 (ps.take i))).length+1:=by rw[eW,Zc];rfl
    have eL:((j7 (ps.take (i+1)))).flatMap jB=((j7 (ps.take i))).flatMap jB++jB (Lib.itoa (Di.gt (.str []) ps i).nV):=by rw[eW,ZX];simp
    exact EA
   ·iterate 2 refine af ?_
    refine Kc (aa.taG rfl rfl Ep (acr _)) ?_
    iterate 3 refine af ?_
    refine Ki (fun gQ=> ?_) fun gQ=> ?_
    ·obtain⟨l,el⟩:=abb gQ
     rw[show(Di.gt (.str []) ps i).lV=Di.aQ l by rw[el];rfl]
     have hlo:l.length<=100∧∀ k∈l,0<=k∧k<10000000000000:=by rw[el] at hpm;exact hpm
     iterate 11 refine af ?_
     refine aC.dw [2,5,6,7,8,11,12,13,14,15,16,17,18,19,20,21,22,23,24,25,26,27,28,29,30,31,32,33,34,35,36,37,48,49,50] (fun g=>[(38,.p (.int .i64 ((g:Nat):Int))),(3,gP 0 (j7 (ps.take i)++(l.take g).map Lib.itoa).length)]) (fun g=>[dG ((((j7 (ps.take i)++(l.take g).map Lib.itoa)).flatMap jB).map .p) 9 ((j7 (ps.take i)++(l.take g).map Lib.itoa)).length]) (fun g=>g<=l.length) (fun g=>l.length - g) 0 (Zn _) (To.uG (To.sub (Sub.tO (Sub.cons rfl (Sub.cons (by rw[JP,zF,ZY];rfl) Sub.nil)))) (by rw[JP,zF,ZY])) (fun j hj=> ?_)
     iterate 5 refine af ?_
     refine Ki (fun o3=> ?_) fun o3=> ?_
     ·have YB:j<l.length:=by have h:=Ze o3;omega
      have hkj:=hlo.2 _ (Di.aV 0 YB)
      have hlt:(l.take j).length<=j:=List.length_take_le j l
      iterate 5 refine af ?_
      refine Kc (aa.aB (g:=Di.gt 0 l) (k:=j) (Di.av _) rfl rfl rfl ai bB rfl (fun _=>rfl) (by decide) YB) ?_
      refine Kc (Kl (.p (.int .i64 (Di.gt 0 l j)))) ?_
      iterate 5 refine af ?_
      refine Kc (Kp (EO (Di.gt 0 l j) (by omega) (by omega))) ?_
      refine Kc (aa.aF rfl ai (by decide) rfl rfl rfl) ?_
      refine Kc (aa.fV rfl rfl rfl ai ai rfl ?_ rfl (by decide) rfl ai (by decide) ?_) ?_
      ·exact xY
      ·(try simp only[Zc,Zr]);show(2*(_+1)+192)*16<=281474976710656;omega
      iterate 3 refine af ?_
      refine Kc (aa.add (m:=((j+1:Nat):Int)) rfl rfl rfl ((aA ?_).trans ?_)) ?_
      ·omega
      ·omega
      iterate 2 refine af ?_
      refine⟨j+1,?_,?_,?_⟩
      ·exact YB
      ·omega
      have eW:(j7 (ps.take i)++(l.take (j+1)).map Lib.itoa)=(j7 (ps.take i)++(l.take j).map Lib.itoa)++[(Lib.itoa (Di.gt 0 l j))]:=by rw[ZV YB,Di.av 0 j YB,Zy,<- ZM];rfl
      have WX:((j7 (ps.take i)++(l.take (j+1)).map Lib.itoa)).length=((j7 (ps.take i)++(l.take j).map Lib.itoa)).length+1:=by rw[eW,Zc];rfl
      have eL:((j7 (ps.take i)++(l.take (j+1)).map Lib.itoa)).flatMap jB=((j7 (ps.take i)++(l.take j).map Lib.itoa)).flatMap jB++jB (Lib.itoa (Di.gt 0 l j)):=by rw[eW,ZX];simp
      exact EA
     ·have hj2:j=l.length:=by have h:=Zf o3;omega
      subst hj2
      refine aC.exit ?_
      refine af ?_
      refine Kc (aa.add rfl rfl rfl (aA ?_)) ?_
      ·omega
      iterate 2 refine af ?_
      refine⟨i+1,?_,?_,?_⟩
      ·exact hk0
      ·omega
      have eP:j7 (ps.take (i+1))=j7 (ps.take i)++(l.take l.length).map Lib.itoa:=by rw[zJ hk0,el,ZT];rfl
      rw[eP]
      exact To.sub KS
    ·exact(OA bw eG gQ).elim
 ·have hi2:i=ps.length:=by have h:=Zf hc0;omega
  subst hi2
  refine aC.to (To.MX 3 0 (j7 (ps.take ps.length)).length (xs:=(j7 (ps.take ps.length)).flatMap jB) rfl rfl (fun h=>by rw[Kd.1 h];rfl)) ?_
  rw[ZT]
  refine aC.exit ?_
  iterate 3 refine af ?_
  refine Kc (Kp (oN (j7 ps) 32 h0 (by omega) (by have:=MD (c:=32) _ hwB;omega))) ?_
  exact Bg
def u6(ws:List Bs):List (List V):=ws.map fun w=>[.p (.int .i64 (gh w))]
theorem E7{ws:List Bs}{i:Nat}(h:i<ws.length):(u6 ws)[i]? =some [V.p (.int .i64 (gh (Di.gt [] ws i)))]:=by
 unfold u6
 rw[Zt,Zb h,Di.av [] i h];rfl
theorem uT(ws:List Bs):Pure Tryz.prog 55 [fS ws] (.func (.func 111) [] [.ip [fS ws] 0]):=by
 refine Kf (N:=4) Tryz.func55 ?_
 exact MN
theorem JD(ws:List Bs)(hl:ws.length<=1000000)(hw:∀ w∈ws,w.length<=1000000)(hC:∀ w∈ws,iK w):LA Tryz.prog 111 (fun y=>[y,.p (.ip [fS ws] 0)]) (u6 ws):=by
 intro l κ nn inv fin hκ UR M7 hb h0 rU
 refine jR.iS (N:=17) Tryz.func111 rfl rfl Kn ?_
 iterate 2 refine af ?_
 refine Kc (Kl (.p (fS ws))) ?_
 iterate 4 refine af ?_
 refine aC.nu [4,7,8,9,10,11,12,13,14,15,16] (fun g=>[(7,.p (.int .i64 ((g.1:Nat):Int)))]) (fun g=>g.2) (fun g=>g.1<=ws.length∧inv g.1 g.2) (fun g=>ws.length - g.1) (0,h0) ⟨Zn _,rU⟩ (To.sub (Sub.L8 (Sub.cons rfl Sub.nil))) (fun g hg=> ?_)
 obtain⟨i,Kv⟩:=g
 obtain⟨hle,hinv⟩:=hg
 dsimp only at hle hinv ⊢
 iterate 5 refine af ?_
 refine Ki (fun hc0=> ?_) fun hc0=> ?_
 ·have hk0:i<ws.length:=by have h:=Ze hc0;omega
  have hm:=Di.aV [] hk0
  iterate 5 refine af ?_
  refine Kc (aa.aB (g:=Di.gt [] ws) (k:=i) (Di.av _) rfl rfl rfl ai nY rfl (fun _=>rfl) (by decide) hk0) ?_
  refine Kc (Kl (.p (.str (sB (Di.gt [] ws i))))) ?_
  iterate 6 refine af ?_
  refine Kc (Kp (AK (Di.gt [] ws i) (hw _ hm) (decide_eq_true (hC _ hm)))) ?_
  refine aq.yield 14 rfl rfl rfl rfl rfl rfl (hb _ _ _ hinv (E7 hk0)) ?_
  intro b2 h2 BE
  iterate 2 refine af ?_
  refine Ki (fun bw=> ?_) fun bw=> ?_
  ·have iY:b2=false:=by simpa using bw
   subst iY
   refine af ?_
   exact⟨.inr rfl,_,fE.none_ rfl,.inr (by rwa [if_neg (by decide)] at BE)⟩
  ·have iY:b2=true:=by simpa using bw
   subst iY
   iterate 2 refine af ?_
   refine Kc (aa.add (m:=((i+1:Nat):Int)) rfl rfl rfl ((aA ?_).trans ?_)) ?_
   ·omega
   ·omega
   iterate 2 refine af ?_
   refine⟨(i+1,h2),?_,?_,?_⟩
   ·exact⟨hk0,by rwa [if_pos rfl] at BE⟩
   ·exact P7
   exact To.sub KS
 ·have hi2:i=ws.length:=by have h:=Zf hc0;omega
  subst hi2
  refine aC.exit ?_
  exact⟨.inl rfl,_,fE.none_ rfl,.inl (by unfold u6;rw[Zr];exact hinv)⟩
theorem F8(ws:List Bs)(hl:ws.length<=1000000)(hw:∀ w∈ws,w.length<=1000000)(hC:¬ ∀ w∈ws,iK w):SR Tryz.prog 111 (fun y=>[y,.p (.ip [fS ws] 0)]) (u6 ws) (.iface 106 (.agg [.int .i64 8])):=by
 intro l κ nn inv hκ UR hb h0 rU
 refine zo.iS (N:=17) Tryz.func111 rfl rfl Kn ?_
 iterate 2 refine af ?_
 refine Kc (Kl (.p (fS ws))) ?_
 iterate 4 refine af ?_
 refine aC.nu [4,7,8,9,10,11,12,13,14,15,16] (fun g=>[(7,.p (.int .i64 ((g.1:Nat):Int)))]) (fun g=>g.2) (fun g=>g.1<=ws.length∧inv g.1 g.2∧∀ j,j<g.1->iK (Di.gt [] ws j)) (fun g=>ws.length - g.1) (0,h0) ⟨Zn _,rU,fun j hj=>absurd hj (by omega)⟩ (To.sub (Sub.L8 (Sub.cons rfl Sub.nil))) (fun g hg=> ?_)
 obtain⟨i,Kv⟩:=g
 obtain⟨hle,hinv,hall⟩:=hg
 dsimp only at hle hinv hall ⊢
 iterate 5 refine af ?_
 refine Ki (fun hc0=> ?_) fun hc0=> ?_
 ·have hk0:i<ws.length:=by have h:=Ze hc0;omega
  have hm:=Di.aV [] hk0
  iterate 5 refine af ?_
  refine Kc (aa.aB (g:=Di.gt [] ws) (k:=i) (Di.av _) rfl rfl rfl ai nY rfl (fun _=>rfl) (by decide) hk0) ?_
  refine Kc (Kl (.p (.str (sB (Di.gt [] ws i))))) ?_
  iterate 6 refine af ?_
  refine aq.cG 13 (b:=(decide (iK (Di.gt [] ws i)))) (AK (Di.gt [] ws i) (hw _ hm)) (MU (Di.gt [] ws i) (hw _ hm)) rfl rfl rfl rfl rfl rfl rfl ai (fun hf=> ?_) (fun hf=> ?_)
  ·exact⟨rfl,_,hinv⟩
  refine aq.yield 14 rfl rfl rfl rfl rfl rfl (hb _ _ _ hinv (E7 hk0)) ?_
  intro b2 h2 BE
  iterate 2 refine af ?_
  refine Ki (fun bw=> ?_) fun bw=> ?_
  ·rw[BE.1] at bw
   cases bw
  ·iterate 2 refine af ?_
   refine Kc (aa.add (m:=((i+1:Nat):Int)) rfl rfl rfl ((aA ?_).trans ?_)) ?_
   ·omega
   ·omega
   iterate 2 refine af ?_
   refine⟨(i+1,h2),?_,?_,?_⟩
   ·exact⟨hk0,BE.2,fun j hj=>by rcases NX.1 hj with h | rfl;exact hall j h;exact Ze hf⟩
   ·exact P7
   exact To.sub KS
 ·have hi2:i=ws.length:=by have h:=Zf hc0;omega
  subst hi2
  exact(hC fun w hw=>by obtain⟨j,hj,rfl⟩:=OX hw;rw[Di.av [] j hj];exact hall j hj).elim
theorem Az(ws:List Bs)(hl:ws.length<=1000000)(hw:∀ w∈ws,w.length<=1000000)(hC:∀ w∈ws,iK w):Pure Tryz.prog 110 [.nilSlice,(.func (.func 111) [] [.ip [fS ws] 0])] (Di.aQ (ws.map gh)):=by
 refine Kf (N:=13) Tryz.func110 ?_
 iterate 2 refine af ?_
 refine Kc (aa.cP rfl rfl rfl) ?_
 iterate 8 refine af ?_
 refine aC.to To.pad ?_
 refine aC.rangeFunc 0 rfl (fun _=>rfl) ai (JD ws hl hw hC) (Zg _) (Zn _) (fun _ h=>by cases h) (fun x hx=>by unfold u6 at hx;obtain⟨j,_,rfl⟩:=xS.1 hx;rfl) rfl (fun k h=>h=[.cells [gP 1 k] 39,dG ((((ws.take k).map gh).flatMap Di.bG).map .p) 3 k]) (fun c h=>False) (fun _ _ h=>by rw[h];rfl) (fun _ _ h=>h.elim) rfl ?_ ?_ ?_
 ·exact W2
 ·intro h hJ
  subst hJ
  rw[show(u6 ws).length=ws.length by unfold u6;rw[Zr],ZT]
  refine af ?_
  refine aC.to (To.abv 1 0 (xs:=(ws.map gh).flatMap Di.bG) (n:=ws.length) (a:=[]) (b:=[]) [(2,.ptr 0 0)] (by decide) rfl rfl (fun h=>by rw[Kd.1 h];rfl) rfl rfl KS KS) ?_
  iterate 5 refine af ?_
  refine Fin.cY rfl rfl ?_
  unfold Di.aQ
  rw[Zr]
 ·exact qU
theorem Cz(ws:List Bs)(hl:ws.length<=1000000)(hw:∀ w∈ws,w.length<=1000000)(hC:¬ ∀ w∈ws,iK w):tC Tryz.prog 110 [.nilSlice,(.func (.func 111) [] [.ip [fS ws] 0])] (.iface 106 (.agg [.int .i64 8])):=by
 refine aD.start (N:=13) Tryz.func110 rfl rfl Kn ?_
 iterate 2 refine af ?_
 refine Kc (aa.cP rfl rfl rfl) ?_
 iterate 8 refine af ?_
 refine aC.to To.pad ?_
 refine aC.CT 0 rfl (fun _=>rfl) ai (F8 ws hl hw hC) (Zg _) (Zn _) (fun x hx=>by unfold u6 at hx;obtain⟨j,_,rfl⟩:=xS.1 hx;rfl) rfl (fun k h=>h=[.cells [gP 1 k] 39,dG ((((ws.take k).map gh).flatMap Di.bG).map .p) 3 k]) (fun _ _ h=>by rw[h];rfl) rfl ?_ ?_
 ·exact W2
 ·intro h
  exact⟨_,rfl,rfl⟩
theorem Gq(ws:List Bs)(hl:ws.length<=1000000)(hw:∀ w∈ws,w.length<=1000000)(hC:∀ w∈ws,iK w):Pure Tryz.prog 54 [(.func (.func 111) [] [.ip [fS ws] 0])] (Di.aQ (ws.map gh)):=by
 refine Kf (N:=5) Tryz.func54 ?_
 iterate 7 refine af ?_
 refine Kc (Kp (Az ws hl hw hC)) ?_
 exact mc
theorem HB(ws:List Bs)(hl:ws.length<=1000000)(hw:∀ w∈ws,w.length<=1000000)(hC:¬ ∀ w∈ws,iK w):tC Tryz.prog 54 [(.func (.func 111) [] [.ip [fS ws] 0])] (.iface 106 (.agg [.int .i64 8])):=by
 refine aD.start (N:=5) Tryz.func54 rfl rfl Kn ?_
 iterate 7 refine af ?_
 refine aq.wA 4 (Cz ws hl hw hC) rfl rfl rfl rfl rfl rfl rfl ai ⟨_,rfl,rfl⟩
def G0(b:bU):List PV:=cg b++[Di.aQ b.bH]
def dR(i1 i2 i3 i4 i5:Nat)(b:bU):List V:=[bg i1 b.au.length,bg i2 b.ag.length,bg i3 b.ax.length,bg i4 b.plan.length,.p (.int .i64 (b.bad:Int)),.p (.int .i64 (b.good:Int)),bg i5 b.bH.length]
def dD(l:List Ck.Sk):ak:=dG ((l.flatMap Ck.Sk.cells).map .p) 126 l.length
def dj(l:List Rx.bF):ak:=dG ((l.flatMap Rx.bF.cells).map .p) 128 l.length
def dI(l:List Di.b7):ak:=dG ((l.flatMap Di.b7.cells).map .p) 81 l.length
def bL(l:List Int):ak:=dG ((l.flatMap Di.bG).map .p) 3 l.length
theorem xK(l:List Int)(hl:l.length<=1000000):aE Tryz.prog 80 [.p (Di.aQ l)] [] fun v H2=>v=bg 0 l.length∧H2=[dG ((l.flatMap Di.bG).map .p) 3 l.length]:=by
 refine aE.start (N:=8) Tryz.func80 rfl rfl Kn ?_
 iterate 8 refine af ?_
 refine aq.Ao 4 rfl rfl rfl ai rfl rfl rfl (fun b hb0=> ?_)
 refine af ?_
 refine Ki (fun hc0=> ?_) fun hc0=> ?_
 ·have h0:l.length=0:=hb0 hc0
  iterate 3 refine af ?_
  refine aq.to (To.z0 2 rfl) ?_
  refine aq.to To.pad ?_
  iterate 2 refine af ?_
  have hq:V.z0=bg 0 l.length∧([.dead]:List ak)=[dG ((l.flatMap Di.bG).map .p) 3 l.length]:=⟨(oQ h0).symm,by rw[oW h0]⟩
  exact KV
 ·iterate 3 refine af ?_
  refine Kc (aa.uj rfl ai) ?_
  refine af ?_
  refine Kc (aa.ru rfl rfl rfl ai ai (iW (xs:=(l.flatMap Di.bG)) (n:=l.length) (sz:=1) (AF.bD (c:=1) (fun _=>rfl) l)) (vu Di.bG l (fun _=>rfl)) ai (by decide) ?_) ?_
  ·show(2*l.length+192)*8<=281474976710656;omega
  exact ER
theorem Hh(l:List Ck.Sk)(hl:l.length<=1000000):aE Tryz.prog 87 [.p (Ck.b8 l)] [] fun v H2=>v=bg 0 l.length∧H2=[dG ((l.flatMap Ck.Sk.cells).map .p) 126 l.length]:=by
 refine aE.start (N:=8) Tryz.func87 rfl rfl Kn ?_
 iterate 8 refine af ?_
 refine aq.Ao 4 rfl rfl rfl ai rfl rfl rfl (fun b hb0=> ?_)
 refine af ?_
 refine Ki (fun hc0=> ?_) fun hc0=> ?_
 ·have h0:l.length=0:=hb0 hc0
  iterate 3 refine af ?_
  refine aq.to (To.z0 2 rfl) ?_
  refine aq.to To.pad ?_
  iterate 2 refine af ?_
  have hq:V.z0=bg 0 l.length∧([.dead]:List ak)=[dG ((l.flatMap Ck.Sk.cells).map .p) 126 l.length]:=⟨(oQ h0).symm,by rw[oW h0]⟩
  exact KV
 ·iterate 3 refine af ?_
  refine Kc (aa.uj rfl ai) ?_
  refine af ?_
  refine Kc (aa.ru rfl rfl rfl ai ai (iW (xs:=(l.flatMap Ck.Sk.cells)) (n:=l.length) (sz:=6) (AF.bD (c:=6) (fun _=>rfl) l)) (vu Ck.Sk.cells l (fun _=>rfl)) ai (by decide) ?_) ?_
  ·show(2*l.length+192)*48<=281474976710656;omega
  exact ER
theorem F6(l:List Di.b7)(hl:l.length<=1000000):aE Tryz.prog 88 [.p (Di.dn l)] [] fun v H2=>v=bg 0 l.length∧H2=[dG ((l.flatMap Di.b7.cells).map .p) 81 l.length]:=by
 refine aE.start (N:=8) Tryz.func88 rfl rfl Kn ?_
 iterate 8 refine af ?_
 refine aq.Ao 4 rfl rfl rfl ai rfl rfl rfl (fun b hb0=> ?_)
 refine af ?_
 refine Ki (fun hc0=> ?_) fun hc0=> ?_
 ·have h0:l.length=0:=hb0 hc0
  iterate 3 refine af ?_
  refine aq.to (To.z0 2 rfl) ?_
  refine aq.to To.pad ?_
  iterate 2 refine af ?_
  have hq:V.z0=bg 0 l.length∧([.dead]:List ak)=[dG ((l.flatMap Di.b7.cells).map .p) 81 l.length]:=⟨(oQ h0).symm,by rw[oW h0]⟩
  exact KV
 ·iterate 3 refine af ?_
  refine Kc (aa.uj rfl ai) ?_
  refine af ?_
  refine Kc (aa.ru rfl rfl rfl ai ai (iW (xs:=(l.flatMap Di.b7.cells)) (n:=l.length) (sz:=3) (AF.bD (c:=3) (fun _=>rfl) l)) (vu Di.b7.cells l (fun _=>rfl)) ai (by decide) ?_) ?_
  ·show(2*l.length+192)*24<=281474976710656;omega
  exact ER
theorem xV{i n:Nat}{l:List V}:jS (bg i n::l)=none:=by cases n <;> rfl
theorem xo(i1 i2 i3 i4 i5:Nat)(b:bU):gL (dR i1 i2 i3 i4 i5 b)= .agg (dR i1 i2 i3 i4 i5 b):=by
 unfold gL dR
 rw[xV]
theorem qG(i1 i2 i3 i4 i5:Nat)(b:bU):(dR i1 i2 i3 i4 i5 b).all jT=true:=by simp only[dR,P1,XH,BR,Bool.true_and,Bool.and_true];rfl
theorem aE.kill{f:FuncId}{args:List V}{H:List ak}{v0:V}{H0:List ak}(i:Nat)(h:aE Tryz.prog f args H fun v H2=>v=v0∧H2=H0):aE Tryz.prog f args H fun v H2=>v=v0∧H2=H0.set i .dead:=
 fun w I ρ us hi ij=>(h w I ρ us hi ij).mono fun e w' ⟨u,v,J,σ,H2,h1,⟨h2,h3⟩,h4,h5,h6⟩=>⟨u,v,J,σ,H0.set i .dead,h1,⟨h2,rfl⟩,h4,by rw[<- h3];exact h5.kill i,h6⟩
theorem Dm(b:bU)(h1:b.au.length<=1000)(h2:b.ag.length<=1000)(h3:b.ax.length<=1000)(h4:b.plan.length<=1000)(h5:b.bH.length<=1000):aE Tryz.prog 49 [.p (.agg (G0 b))] [] fun v H2=>v= .agg (dR 3 2 4 5 6 b)∧H2=[.cells (dR 3 2 4 5 6 b) 59,.cells (dR 3 2 4 5 6 b) 59,dj b.ag,dD b.au,dI b.ax,bL b.plan,bL b.bH]:=by
 refine aE.start (N:=42) Tryz.func49 rfl rfl Kn ?_
 iterate 7 refine af ?_
 refine Kc (Kl (.p (.agg (G0 b)))) ?_
 iterate 7 refine af ?_
 refine Kc (Kl (.p (Rx.cz b.ag))) ?_
 refine af ?_
 refine Kc (aa.YT rfl rfl rfl ai ai (by decide) ?_) ?_
 ·show 16*b.ag.length<=281474976710656;omega
 iterate 2 refine af ?_
 refine Kz (aa.wq (H':=[.cells [.p .nilSlice,.p .nilSlice,.p .nilSlice,.p .nilSlice,.p (.int .i64 0),.p (.int .i64 0),.p .nilSlice] 59,.cells [.p (Ck.b8 b.au),bg 2 b.ag.length,.p (Di.dn b.ax),.p (Di.aQ b.plan),.p (.int .i64 (b.bad:Int)),.p (.int .i64 (b.good:Int)),.p (Di.aQ b.bH)] 59,dG ((List.replicate b.ag.length [.int .i64 0,.int .i64 0]).flatten.map .p) 128 b.ag.length]) rfl rfl rfl ai rfl) ?_
 iterate 5 refine af ?_
 refine Kc (Kl (bg 2 b.ag.length)) ?_
 iterate 2 refine af ?_
 refine Kc (Kl (.p (Rx.cz b.ag))) ?_
 refine Kc (aa.XW (zs:=(List.replicate b.ag.length [.int .i64 0,.int .i64 0]).flatten) (xs:=(b.ag.flatMap Rx.bF.cells)) rfl rfl rfl ai rfl (AF.bD (c:=2) (fun _=>rfl) b.ag) (by rw[AF.bD (c:=2) (fun _=>rfl)];simp) (vu Rx.bF.cells b.ag (fun _=>rfl)) (iW (xs:=(b.ag.flatMap Rx.bF.cells)) (n:=b.ag.length) (sz:=2) (AF.bD (c:=2) (fun _=>rfl) b.ag))) ?_
 iterate 2 refine af ?_
 refine aC.bz 10 2 [3,4] [([],false),([],false),([],false),([3],true),([],false),([],false),([],false),([4],true),([],false),([],false)] mixed (by kernel_rfl) (by decide) (by kernel_rfl) rfl (by simp[cj,bY,cD,eZ,iP,fX,bS,dc,dD,dj,dI,bL,dR]) ?_
 iterate 2 refine af ?_
 refine aX.cons 21 rfl rfl rfl (fun _=>(Kl (.p (Ck.b8 b.au)))) rfl ?_
 refine aX.lay (blk:=(dD b.au)) (v:=bg 3 b.au.length) (v0:=bg 5 b.au.length) 22 3 rfl rfl rfl rfl rfl rfl rfl rfl (fun _=>(aa.FH (args:=[Ck.b8 b.au]) 1 5 (Hh b.au (by omega)) rfl (fz (f:=Ck.Sk.cells) (fun _=>rfl) _) rfl rfl rfl rfl rfl ai)) (cM rfl) (cM rfl) bS ?_
 iterate 2 refine af ?_
 refine aX.cons 25 rfl rfl rfl (fun _=>(Kl (.p (Di.dn b.ax)))) rfl ?_
 refine aX.lay (blk:=(dI b.ax)) (v:=bg 4 b.ax.length) (v0:=bg 5 b.ax.length) 26 4 rfl rfl rfl rfl rfl rfl rfl rfl (fun _=>(aa.FH (args:=[Di.dn b.ax]) 1 5 (F6 b.ax (by omega)) rfl (fz (f:=Di.b7.cells) (fun _=>rfl) _) rfl rfl rfl rfl rfl ai)) (cM rfl) (cM rfl) bS ?_
 iterate 2 refine af ?_
 refine aX.nil ?_
 refine Kz (aa.wq (H':=[.cells [.p .nilSlice,.p .nilSlice,.p .nilSlice,.p .nilSlice,.p (.int .i64 0),.p (.int .i64 0),.p .nilSlice] 59,.cells [bg 3 b.au.length,bg 2 b.ag.length,.p (Di.dn b.ax),.p (Di.aQ b.plan),.p (.int .i64 (b.bad:Int)),.p (.int .i64 (b.good:Int)),.p (Di.aQ b.bH)] 59,dj b.ag,dD b.au,dI b.ax]) rfl rfl rfl ai rfl) ?_
 iterate 2 refine af ?_
 refine Kz (aa.wq (H':=[.cells [.p .nilSlice,.p .nilSlice,.p .nilSlice,.p .nilSlice,.p (.int .i64 0),.p (.int .i64 0),.p .nilSlice] 59,.cells [bg 3 b.au.length,bg 2 b.ag.length,bg 4 b.ax.length,.p (Di.aQ b.plan),.p (.int .i64 (b.bad:Int)),.p (.int .i64 (b.good:Int)),.p (Di.aQ b.bH)] 59,dj b.ag,dD b.au,dI b.ax]) rfl rfl rfl ai rfl) ?_
 iterate 2 refine af ?_
 refine aC.bz 9 2 [5,6] [([],false),([],false),([],false),([5],true),([],false),([],false),([6],true),([],false),([],false)] mixed (by kernel_rfl) (by decide) (by kernel_rfl) rfl (by simp[cj,bY,cD,eZ,iP,fX,bS,dc,dD,dj,dI,bL,dR]) ?_
 iterate 2 refine af ?_
 refine aX.cons 33 rfl rfl rfl (fun _=>(Kl (.p (Di.aQ b.plan)))) rfl ?_
 refine aX.lay (blk:=(bL b.plan)) (v:=bg 5 b.plan.length) (v0:=bg 7 b.plan.length) 34 5 rfl rfl rfl rfl rfl rfl rfl rfl (fun _=>(aa.FH (args:=[Di.aQ b.plan]) 1 7 (xK b.plan (by omega)) rfl (fz (f:=Di.bG) (fun _=>rfl) _) rfl rfl rfl rfl rfl ai)) (cM rfl) (cM rfl) bS ?_
 refine af ?_
 refine aX.cons 36 rfl rfl rfl (fun _=>(Kl (.p (Di.aQ b.bH)))) rfl ?_
 refine aX.lay (blk:=(bL b.bH)) (v:=bg 6 b.bH.length) (v0:=bg 7 b.bH.length) 37 6 rfl rfl rfl rfl rfl rfl rfl rfl (fun _=>(aa.FH (args:=[Di.aQ b.bH]) 1 7 (xK b.bH (by omega)) rfl (fz (f:=Di.bG) (fun _=>rfl) _) rfl rfl rfl rfl rfl ai)) (cM rfl) (cM rfl) bS ?_
 iterate 2 refine af ?_
 refine aX.nil ?_
 refine Kz (aa.wq (H':=[.cells [.p .nilSlice,.p .nilSlice,.p .nilSlice,.p .nilSlice,.p (.int .i64 0),.p (.int .i64 0),.p .nilSlice] 59,.cells [bg 3 b.au.length,bg 2 b.ag.length,bg 4 b.ax.length,bg 5 b.plan.length,.p (.int .i64 (b.bad:Int)),.p (.int .i64 (b.good:Int)),.p (Di.aQ b.bH)] 59,dj b.ag,dD b.au,dI b.ax,bL b.plan,bL b.bH]) rfl rfl rfl ai rfl) ?_
 refine af ?_
 refine Kz (aa.wq (H':=[.cells [.p .nilSlice,.p .nilSlice,.p .nilSlice,.p .nilSlice,.p (.int .i64 0),.p (.int .i64 0),.p .nilSlice] 59,.cells (dR 3 2 4 5 6 b) 59,dj b.ag,dD b.au,dI b.ax,bL b.plan,bL b.bH]) rfl rfl rfl ai rfl) ?_
 iterate 3 refine af ?_
 refine Kc (aa.load (v:= .agg (dR 3 2 4 5 6 b)) rfl rfl ai (show di _ _ _ _=_ from congrArg some (xo 3 2 4 5 6 b))) ?_
 refine Kz (aa.store (H':=[.cells (dR 3 2 4 5 6 b) 59,.cells (dR 3 2 4 5 6 b) 59,dj b.ag,dD b.au,dI b.ax,bL b.plan,bL b.bH]) rfl rfl rfl rfl (qG 3 2 4 5 6 b) ai rfl rfl) ?_
 iterate 2 refine af ?_
 exact nk.one rfl ⟨_,_,_,rfl,ai,(show di _ _ _ _=_ from congrArg some (xo 3 2 4 5 6 b))⟩ ⟨rfl,rfl⟩
theorem HI(b:bU)(h1:b.au.length<=1000)(h2:b.ag.length<=1000)(h3:b.ax.length<=1000)(h4:b.plan.length<=1000)(h5:b.bH.length<=1000):aE Tryz.prog 49 ([.agg (G0 b)].map .p) [] fun v H2=>v= .agg (dR 3 2 4 5 6 b)∧H2=[.dead,.dead,dj b.ag,dD b.au,dI b.ax,bL b.plan,bL b.bH]:=
 aE.kill 1 (aE.kill 0 (Dm b h1 h2 h3 h4 h5))
def cI(b:bU)(p:Di.bX)(um:V)(i1 i2 i3 i4 i5:Nat):ak:= .cells (dR i1 i2 i3 i4 i5 b++p.cells.map .p++[um,.p (.bool true)]) 63
def ov(b:bU)(p:Di.bX)(um:V):List ak:=[cI b p um 1 2 3 4 5,dD b.au,dj b.ag,dI b.ax,bL b.plan,bL b.bH]
theorem Nh(l:List Rx.bF)(x:Rx.bF):ak.row ((l.flatMap Rx.bF.cells).map .p++x.cells.map .p) 128=dj (l++[x]):=by
 unfold dj
 exact Ir
theorem M1(l:List Ck.Sk)(x:Ck.Sk):ak.row ((l.flatMap Ck.Sk.cells).map .p++x.cells.map .p) 126=dD (l++[x]):=by
 unfold dD
 exact Ir
theorem MS(l:List Di.b7)(x:Di.b7):ak.row ((l.flatMap Di.b7.cells).map .p++x.cells.map .p) 81=dI (l++[x]):=by
 unfold dI
 exact Ir
theorem BC(l:List Int)(x:Int):ak.row ((l.flatMap Di.bG).map .p++(Di.bG x).map .p) 3=bL (l++[x]):=by
 unfold bL
 exact Ir
theorem me{α:Type}(i:Nat)(l:List α)(x:α):V.row i (l.length+1)=bg i (l++[x]).length:=by
 rw[Zc];rfl
def At6(b:bU)(p:Di.bX)(um:V)(H:List ak):Prop:=∃ i1 i2 i3 i4 i5:Nat,[0,i1,i2,i3,i4,i5].Nodup∧H[0]? =some (cI b p um i1 i2 i3 i4 i5)∧H[i1]? =some (dD b.au)∧H[i2]? =some (dj b.ag)∧H[i3]? =some (dI b.ax)∧H[i4]? =some (bL b.plan)∧H[i5]? =some (bL b.bH)
def AT(b:bU)(p:Di.bX)(um:V)(H:List ak):Prop:=6<=H.length∧∀(j:Nat) (y:ak),0<j->j<6->H[j]? =some y->y= .dead∨(ov b p um)[j]? =some y
def VV(b:bU)(p:Di.bX)(um:V)(H:List ak):Prop:=(∃ cs:List V,cs.length=7∧H[0]? =some (.cells (cs++p.cells.map .p++[um,.p (.bool true)]) 63))∧AT b p um H
theorem W8(b:bU)(p:Di.bX)(um:V):At6 b p um (ov b p um):=⟨1,2,3,4,5,by decide,rfl,rfl,rfl,rfl,rfl,rfl⟩
theorem CI(b:bU)(p:Di.bX)(um:V):AT b p um (ov b p um):=⟨Zg _,fun j y _ _ h=> .inr h⟩
theorem gv(b:bU)(p:Di.bX)(um:V):VV b p um (ov b p um):=⟨⟨_,rfl,rfl⟩,CI b p um⟩
theorem WB(b:bU)(p:Di.bX)(a:Option Addr)(m c:Nat):Xn Tryz.prog (ov b p (.raw a m c)):=vP (by
 intro blk h
 simp only[ov,Zv,Oc,or_false] at h
 rcases h with rfl | rfl | rfl | rfl | rfl | rfl
 ·simp[cI,ov,dR,cj,bY,cD,eZ,iP,Jc,Di.bX.cells]
 ·exact bS
 ·exact bS
 ·exact bS
 ·exact bS
 ·exact bS)
theorem LC{H:List ak}{b:bU}{p:Di.bX}{um:V}{i1 i2 i3 i4 i5 k:Nat}{v:V}(h0:H[0]? =some (cI b p um i1 i2 i3 i4 i5))(hv:(dR i1 i2 i3 i4 i5 b++p.cells.map .p++[um,.p (.bool true)])[k]? =some v):di H false 1 (.ptr 0 k)=some v:=by
 simp only[di,h0]
 exact hv
theorem aa0{H:List ak}{b:bU}{p:Di.bX}{um v:V}{i1 i2 i3 i4 i5 k:Nat}{cs:List V}(h0:H[0]? =some (cI b p um i1 i2 i3 i4 i5))(hk:k+1<=13)(hc:setAt (dR i1 i2 i3 i4 i5 b++p.cells.map .p++[um,.p (.bool true)]) k [v]=cs):gU H 0 k [v]=some (H.set 0 (.cells cs 63)):=by
 subst hc
 simp only[gU,h0]
 exact if_pos hk
theorem KU(b:bU)(p:Di.bX)(um:V)(i1 i2 i3 i4 i5:Nat)(H:List ak)(h0:H[0]? =some (cI b p um i1 i2 i3 i4 i5)):aD Tryz.prog 152 [.ptr 0 0] H (fun v H2=>b.ag.length<24∧v= .p (.tuple [])∧H2=H) (fun y H2=>¬ b.ag.length<24∧y=(.iface 106 (.agg [.int .i64 9]))∧H2=H):=by
 refine aD.start (N:=11) Tryz.func152 rfl rfl Kn ?_
 iterate 6 refine af ?_
 refine Kc (aa.load (v:=bg i2 b.ag.length) rfl rfl ai (LC h0 rfl)) ?_
 refine Kc (aa.bJ rfl rfl ai qX) ?_
 refine af ?_
 refine aq.cG 10 (b:=_) (dQ _ 9) (dU _ 9) rfl rfl rfl rfl rfl rfl rfl ai (fun hb=> ?_) (fun hb=> ?_)
 ·exact⟨_,rfl,fun h=>Zf hb (by omega),rfl,rfl⟩
 refine af ?_
 have iY:=Ze hb
 exact⟨.inl rfl,_,fE.none_ rfl,by omega,rfl,rfl⟩
theorem aat(b:bU)(p:Di.bX)(um:V)(i1 i2 i3 i4 i5:Nat)(H:List ak)(h0:H[0]? =some (cI b p um i1 i2 i3 i4 i5))(n:Int):aE Tryz.prog 156 [.ptr 0 0,.p (.int .i64 n)] H (fun v H2=>v= .p (.bool (decide (n<(b.ag.length:Int))))∧H2=H):=by
 refine aE.start (N:=14) Tryz.func156 rfl rfl Kn ?_
 iterate 12 refine af ?_
 refine Kc (aa.load (v:=bg i2 b.ag.length) rfl rfl ai (LC h0 rfl)) ?_
 refine Kc (aa.bJ rfl rfl ai qX) ?_
 iterate 4 refine af ?_
 exact nk.one rfl rfl ⟨rfl,rfl⟩
theorem M9(b:bU)(p:Di.bX)(um:V)(i1 i2 i3 i4 i5:Nat)(H:List ak)(h0:H[0]? =some (cI b p um i1 i2 i3 i4 i5))(h2:H[i2]? =some (dj b.ag))(hi:i2≠0)(x y:Int):aD Tryz.prog 92 [.ptr 0 0,.p (.int .i64 x),.p (.int .i64 y)] H (fun v H2=>b.ag.length<24∧v= .p (.int .i64 (b.ag.length:Int))∧H2=(H.set i2 .dead++[dj (b.gz ⟨x,y⟩).ag]).set 0 (cI (b.gz ⟨x,y⟩) p um i1 H.length i3 i4 i5)) (fun q H2=>¬ b.ag.length<24∧q=(.iface 106 (.agg [.int .i64 9]))∧H2=H):=by
 refine aD.start (N:=33) Tryz.func92 rfl rfl Kn ?_
 have h0L:0<H.length:=(Za.1 h0).1
 have h0s:(H.set i2 .dead++[ak.row ((b.ag.flatMap Rx.bF.cells).map .p++(Rx.bF.mk x y).cells.map .p) 128])[0]? =some (cI b p um i1 i2 i3 i4 i5):=by rw[Zd (by rw[yl];exact h0L),Zu,if_neg hi];exact h0
 iterate 7 refine af ?_
 refine aq.fT 8 (KU b p um i1 i2 i3 i4 i5 H h0) rfl rfl rfl rfl rfl rfl rfl ai (fun y H2 jJ=> ?_) (fun v H2 jJ=> ?_)
 ·obtain⟨q1,q2,q3⟩:=jJ
  exact⟨_,rfl,q1,q2,q3⟩
 obtain⟨hlt,rfl,hH⟩:=jJ
 have hH:=hH.symm
 subst hH
 iterate 9 refine af ?_
 refine Kc (aa.load (v:=bg i2 b.ag.length) rfl rfl ai (LC h0 rfl)) ?_
 iterate 3 refine af ?_
 refine Kc (aa.aF rfl ai (by decide) rfl rfl rfl) ?_
 refine Kc (aa.qN (i:=i2) (len:=b.ag.length) (cs:=(b.ag.flatMap Rx.bF.cells).map .p) (ys:=(Rx.bF.mk x y).cells.map .p) (n:=1) rfl rfl rfl ai ai h2 ?_ rfl (by decide) rfl ai (by decide) ?_) ?_
 ·rw[Zr,AF.bD (c:=2) (fun _=>rfl)];rfl
 ·show(2*(b.ag.length+1)+192)*16<=281474976710656;omega
 iterate 4 refine af ?_
 refine Kz (aa.store rfl rfl rfl rfl rfl ai rfl (aa0 h0s (by decide) rfl)) ?_
 iterate 8 refine af ?_
 refine Kc (aa.load (v:= .row H.length (b.ag.length+1)) rfl rfl ai (by simp only[di];rw[Zu,if_pos rfl,if_pos (by rw[Zc,yl];omega)];rfl)) ?_
 refine af ?_
 refine Kc (aa.ec (m:=(b.ag.length:Int)) rfl rfl rfl ((aA ?_).trans ?_)) ?_
 ·omega
 ·omega
 iterate 3 refine af ?_
 refine jt.one rfl rfl ⟨hlt,rfl,?_⟩
 rw[Nh]
 congr 1
 unfold cI dR
 have eA:bg H.length (b.gz ⟨x,y⟩).ag.length= .row H.length (b.ag.length+1):=(me H.length b.ag ⟨x,y⟩).symm
 rw[eA]
 rfl
theorem zX(b:bU)(p:Di.bX)(a:Option Addr)(m c:Nat):aD Tryz.prog 152 [.ptr 0 0] (ov b p (.raw a m c)) (fun v H2=>b.ag.length<24∧v= .p (.tuple [])∧H2=ov b p (.raw a m c)) (fun y H2=>¬ b.ag.length<24∧y=(.iface 106 (.agg [.int .i64 9]))∧H2=ov b p (.raw a m c)):=KU b p (.raw a m c) 1 2 3 4 5 (ov b p (.raw a m c)) rfl
theorem ux(b:bU)(p:Di.bX)(a:Option Addr)(m c:Nat)(n:Int):aE Tryz.prog 156 [.ptr 0 0,.p (.int .i64 n)] (ov b p (.raw a m c)) (fun v H2=>v= .p (.bool (decide (n<(b.ag.length:Int))))∧H2=ov b p (.raw a m c)):=aat b p (.raw a m c) 1 2 3 4 5 (ov b p (.raw a m c)) rfl n
theorem zl(b:bU)(p:Di.bX)(a:Option Addr)(m c:Nat)(x y:Int):aD Tryz.prog 92 [.ptr 0 0,.p (.int .i64 x),.p (.int .i64 y)] (ov b p (.raw a m c)) (fun v H2=>b.ag.length<24∧v= .p (.int .i64 (b.ag.length:Int))∧H2=[cI (b.gz ⟨x,y⟩) p (.raw a m c) 1 6 3 4 5,dD b.au,.dead,dI b.ax,bL b.plan,bL b.bH,dj (b.gz ⟨x,y⟩).ag]) (fun q H2=>¬ b.ag.length<24∧q=(.iface 106 (.agg [.int .i64 9]))∧H2=ov b p (.raw a m c)):=M9 b p (.raw a m c) 1 2 3 4 5 (ov b p (.raw a m c)) rfl rfl (by decide) x y
end Go.Proofs.YtchiinjiflgepaaGreatDoor
end
