/-
 Contracts of the library's shelf, laid at this program by the kit's tool.
 Chapter 15: what the library's texts do at this program: numbers as texts; texts that are cut, joined, looked at.
 The program of chapter 15: small functions; the batches of a set; a reply.
 The program of chapter 15: a number in a word; a reply.
 The program of chapter 15: the numbers in words.
 The program of chapter 15: books that are copied.
 The program of chapter 15: the floor; a card more.
-/
import Derived.Shelf.LaysM
import Derived.Shelf.Strconv.Itoa3
import Derived.Shelf.Bits.Mul64
import Derived.Shelf.Strings.Count
import Derived.Shelf.Strings.Search3
import Derived.Shelf.Strings.SplitCore
import Derived.Shelf.Strings.Prefix
import Derived.Shelf.Strings.OnBuilder
import Derived.Shelf.Small.Strs
import Derived.Shelf.Spec.TrailingZeros
import Derived.Shelf.Lays7
import Derived.Test.YtchiinjiflgepaaGreatDoorProg
import Derived.Test.YtchiinjiflgepaaGreatDoorMzQP
import Derived.Test.YtchiinjiflgepaaGreatDoorMzQF
import Derived.Test.YtchiinjiflgepaaGreatDoorFaQF
import Derived.Test.YtchiinjiflgepaaGreatDoorMzQM
import Derived.Test.YtchiinjiflgepaaGreatDoorMzQZ
theorem XB{A:Prop}(h:A:=by
 intro l tmps k h x hJ hx
 subst hJ
 have hk:k<ws.length:=by have:=(Za.1 hx).1;unfold vS at this;rwa [Zq] at this
 obtain rfl:x=[.p (.int .i64 (gz ws[k]))]:=by unfold vS at hx;rw[Zu,Zd hk] at hx;simpa using hx.symm
 iterate 3 refine af ?_
 refine⟨rfl,rfl,?_⟩
 iterate 2 refine af ?_
 refine Kc (Kl (kJ 1 k)) ?_
 refine af ?_
 refine Kc (aa.aU rfl an (by decide) rfl rfl rfl) ?_
 refine Kc (aa.kW rfl rfl rfl an an rfl ?_ rfl (by decide) rfl an (by decide) ?_) ?_
 ·rw[Zq,AF.ct (c:=1) (fun _=>rfl),Zq,ZW];show min _ _*1=_*1;omega
 ·omega
 iterate 2 refine af ?_
 refine⟨_,rfl,To.done [0,3,2] rfl Sub.nil ?_⟩
 show[ai.cells [V.row 1 (k+1)] 39,ai.row (bn _ (_++_)) _,_]=_
 rw[bD,aY,<- YM hk,ZH,FQ,ZH]
 rfl):A:=h
theorem OQ{A:Prop}(h:A:=by
 rw[VT,eL]
 refine To.done [1] rfl KS ?_
 show[ai.row (bn _ (_++_)) _]=[ai.row _ _]
 rw[bD,aY,ZH]
 rfl):A:=h
theorem Jm{A:Prop}(h:A:=by
 rw[Zb,FQ,ZH]
 simp[dN]):A:=h
theorem F5{A:Prop}(h:A:=by
 rw[Zq,AF.ct (c:=1) (fun _=>rfl)];rfl):A:=h
set_option linter.unusedSimpArgs false
set_option linter.unusedVariables false
section
namespace Go.Proofs
open Go.Shelf
def Tryz.yz:Go.Shelf.Ren:=⟨fun | 171=>25 | 243=>66 | 246=>141 | 283=>179 | 284=>180 | 285=>181 | 286=>182 | 129=>205 | 317=>204 | 318=>206 | 319=>207 | 320=>158 | 337=>145 | 338=>197 | n=>n,fun | 3=>3 | 9=>9 | 2=>2 | 4=>4 | 171=>230 | 0=>0 | 53=>231 | 37=>75 | 5=>5 | 173=>234 | 212=>252 | 51=>136 | 20=>20 | 213=>253 | 46=>215 | 232=>236 | 233=>265 | n=>n,fun | 17=>2 | 18=>1 | 19=>3 | n=>n⟩
theorem Tryz.Iz:Go.Proofs.LaysM.n171 Tryz.prog Tryz.yz:={
 mixed:=by kernel_rfl
 f129:= Tryz.func205.trans (congrArg some (by kernel_rfl))
 f171:= Tryz.func25.trans (congrArg some (by kernel_rfl))
 f243:= Tryz.func66.trans (congrArg some (by kernel_rfl))
 f246:= Tryz.func141.trans (congrArg some (by kernel_rfl))
 f283:= Tryz.func179.trans (congrArg some (by kernel_rfl))
 f284:= Tryz.func180.trans (congrArg some (by kernel_rfl))
 f285:= Tryz.func181.trans (congrArg some (by kernel_rfl))
 f286:= Tryz.func182.trans (congrArg some (by kernel_rfl))
 f317:= Tryz.func204.trans (congrArg some (by kernel_rfl))
 f318:= Tryz.func206.trans (congrArg some (by kernel_rfl))
 f319:= Tryz.func207.trans (congrArg some (by kernel_rfl))
 f320:= Tryz.func158.trans (congrArg some (by kernel_rfl))
 f337:= Tryz.func145.trans (congrArg some (by kernel_rfl))
 f338:= Tryz.func197.trans (congrArg some (by kernel_rfl))
 t0:= Tryz.underlying0
 a0:= Tryz.isAgg0
 z0:= Tryz.sizeOf0
 v0:= Tryz.zeroValue0
 t2:= Tryz.underlying2
 a2:= Tryz.isAgg2
 z2:= Tryz.sizeOf2
 v2:= Tryz.zeroValue2
 t3:= Tryz.underlying3
 a3:= Tryz.isAgg3
 z3:= Tryz.sizeOf3
 v3:= Tryz.zeroValue3
 t4:= Tryz.underlying4
 a4:= Tryz.isAgg4
 z4:= Tryz.sizeOf4
 v4:= Tryz.zeroValue4
 t5:= Tryz.underlying5
 a5:= Tryz.isAgg5
 z5:= Tryz.sizeOf5
 v5:= Tryz.zeroValue5
 t9:= Tryz.underlying9
 a9:= Tryz.isAgg9
 z9:= Tryz.sizeOf9
 v9:= Tryz.zeroValue9
 t20:= Tryz.underlying20
 a20:= Tryz.isAgg20
 z20:= Tryz.sizeOf20
 v20:= Tryz.zeroValue20
 t37:= Tryz.underlying75
 a37:= Tryz.isAgg75
 z37:= Tryz.sizeOf75
 v37:= Tryz.zeroValue75
 t46:= Tryz.underlying215
 a46:= Tryz.isAgg215
 z46:= Tryz.sizeOf215
 v46:= Tryz.zeroValue215
 t51:= Tryz.underlying136
 a51:= Tryz.isAgg136
 z51:= Tryz.sizeOf136
 v51:= Tryz.zeroValue136
 t53:= Tryz.underlying231
 a53:= Tryz.isAgg231
 z53:= Tryz.sizeOf231
 v53:= Tryz.zeroValue231
 t171:= Tryz.underlying230
 a171:= Tryz.isAgg230
 z171:= Tryz.sizeOf230
 v171:= Tryz.zeroValue230
 t173:= Tryz.underlying234
 a173:= Tryz.isAgg234
 z173:= Tryz.sizeOf234
 v173:= Tryz.zeroValue234
 t212:= Tryz.underlying252
 a212:= Tryz.isAgg252
 z212:= Tryz.sizeOf252
 v212:= Tryz.zeroValue252
 t213:= Tryz.underlying253
 a213:= Tryz.isAgg253
 z213:= Tryz.sizeOf253
 t232:= Tryz.underlying236
 a232:= Tryz.isAgg236
 z232:= Tryz.sizeOf236
 v232:= Tryz.zeroValue236
 t233:= Tryz.underlying265
 a233:= Tryz.isAgg265
 z233:= Tryz.sizeOf265
 v233:= Tryz.zeroValue265
 g17:=by kernel_rfl
 g18:=by kernel_rfl
 g19:=by kernel_rfl
 i0:=by kernel_rfl
 i2:=by kernel_rfl
 i3:=by kernel_rfl
 i4:=by kernel_rfl
 i5:=by kernel_rfl
 i9:=by kernel_rfl
 i20:=by kernel_rfl
 i37:=by kernel_rfl
 i46:=by kernel_rfl
 i51:=by kernel_rfl
 i53:=by kernel_rfl
 i171:=by kernel_rfl
 i173:=by kernel_rfl
 i212:=by kernel_rfl
 i232:=by kernel_rfl
 i233:=by kernel_rfl
 m17:=by kernel_rfl
 m18:=by kernel_rfl
 m19:=by kernel_rfl}
def Tryz.sD:Go.Shelf.Ren:=⟨fun | 156=>85 | 165=>148 | 166=>44 | 169=>45 | 240=>86 | 241=>184 | 276=>149 | 277=>208 | n=>n,fun | 31=>32 | 9=>9 | 3=>3 | 4=>4 | 0=>0 | 20=>20 | 72=>89 | 76=>97 | 70=>87 | 37=>75 | 75=>96 | 127=>170 | 164=>209 | 5=>5 | 80=>99 | n=>n,fun | n=>n⟩
theorem Tryz.MS:Go.Proofs.Lays.n156 Tryz.prog Tryz.sD:={
 mixed:=by kernel_rfl
 f156:= Tryz.func85.trans (congrArg some (by kernel_rfl))
 f165:= Tryz.func148.trans (congrArg some (by kernel_rfl))
 f166:= Tryz.func44.trans (congrArg some (by kernel_rfl))
 f169:= Tryz.func45.trans (congrArg some (by kernel_rfl))
 f240:= Tryz.func86.trans (congrArg some (by kernel_rfl))
 f241:= Tryz.func184.trans (congrArg some (by kernel_rfl))
 f276:= Tryz.func149.trans (congrArg some (by kernel_rfl))
 f277:= Tryz.func208.trans (congrArg some (by kernel_rfl))
 t0:= Tryz.underlying0
 a0:= Tryz.isAgg0
 z0:= Tryz.sizeOf0
 v0:= Tryz.zeroValue0
 t3:= Tryz.underlying3
 a3:= Tryz.isAgg3
 z3:= Tryz.sizeOf3
 v3:= Tryz.zeroValue3
 t4:= Tryz.underlying4
 a4:= Tryz.isAgg4
 z4:= Tryz.sizeOf4
 v4:= Tryz.zeroValue4
 t9:= Tryz.underlying9
 a9:= Tryz.isAgg9
 z9:= Tryz.sizeOf9
 v9:= Tryz.zeroValue9
 t20:= Tryz.underlying20
 a20:= Tryz.isAgg20
 z20:= Tryz.sizeOf20
 v20:= Tryz.zeroValue20
 t31:= Tryz.underlying32
 a31:= Tryz.isAgg32
 z31:= Tryz.sizeOf32
 v31:= Tryz.zeroValue32
 t37:= Tryz.underlying75
 a37:= Tryz.isAgg75
 z37:= Tryz.sizeOf75
 v37:= Tryz.zeroValue75
 t70:= Tryz.underlying87
 a70:= Tryz.isAgg87
 z70:= Tryz.sizeOf87
 v70:= Tryz.zeroValue87
 t72:= Tryz.underlying89
 a72:= Tryz.isAgg89
 z72:= Tryz.sizeOf89
 v72:= Tryz.zeroValue89
 t75:= Tryz.underlying96
 a75:= Tryz.isAgg96
 z75:= Tryz.sizeOf96
 v75:= Tryz.zeroValue96
 t76:= Tryz.underlying97
 a76:= Tryz.isAgg97
 z76:= Tryz.sizeOf97
 v76:= Tryz.zeroValue97
 t127:= Tryz.underlying170
 a127:= Tryz.isAgg170
 z127:= Tryz.sizeOf170
 v127:= Tryz.zeroValue170
 t164:= Tryz.underlying209
 a164:= Tryz.isAgg209
 z164:= Tryz.sizeOf209
 v164:= Tryz.zeroValue209}
def Tryz.Bv:Go.Shelf.Ren:=⟨fun | 221=>89 | 268=>150 | 138=>151 | 143=>65 | 195=>185 | 197=>186 | 218=>187 | 219=>140 | 260=>209 | 217=>147 | 225=>176 | 224=>177 | 267=>178 | 266=>183 | 314=>203 | n=>n,fun | 9=>9 | 3=>3 | 31=>32 | 4=>4 | 0=>0 | 105=>237 | 21=>21 | 5=>5 | 46=>215 | 119=>266 | 139=>269 | 138=>268 | 146=>249 | 51=>136 | n=>n,fun | 1=>0 | 3=>4 | 4=>5 | n=>n⟩
theorem Tryz.MP:Go.Proofs.Lays.n221 Tryz.prog Tryz.Bv:={
 mixed:=by kernel_rfl
 f138:= Tryz.func151.trans (congrArg some (by kernel_rfl))
 f143:= Tryz.func65.trans (congrArg some (by kernel_rfl))
 f195:= Tryz.func185.trans (congrArg some (by kernel_rfl))
 f197:= Tryz.func186.trans (congrArg some (by kernel_rfl))
 f217:= Tryz.func147.trans (congrArg some (by kernel_rfl))
 f218:= Tryz.func187.trans (congrArg some (by kernel_rfl))
 f219:= Tryz.func140.trans (congrArg some (by kernel_rfl))
 f221:= Tryz.func89.trans (congrArg some (by kernel_rfl))
 f224:= Tryz.func177.trans (congrArg some (by kernel_rfl))
 f225:= Tryz.func176.trans (congrArg some (by kernel_rfl))
 f260:= Tryz.func209.trans (congrArg some (by kernel_rfl))
 f266:= Tryz.func183.trans (congrArg some (by kernel_rfl))
 f267:= Tryz.func178.trans (congrArg some (by kernel_rfl))
 f268:= Tryz.func150.trans (congrArg some (by kernel_rfl))
 f314:= Tryz.func203.trans (congrArg some (by kernel_rfl))
 t0:= Tryz.underlying0
 a0:= Tryz.isAgg0
 z0:= Tryz.sizeOf0
 v0:= Tryz.zeroValue0
 t3:= Tryz.underlying3
 a3:= Tryz.isAgg3
 z3:= Tryz.sizeOf3
 v3:= Tryz.zeroValue3
 t4:= Tryz.underlying4
 a4:= Tryz.isAgg4
 z4:= Tryz.sizeOf4
 v4:= Tryz.zeroValue4
 t5:= Tryz.underlying5
 a5:= Tryz.isAgg5
 z5:= Tryz.sizeOf5
 v5:= Tryz.zeroValue5
 t9:= Tryz.underlying9
 a9:= Tryz.isAgg9
 z9:= Tryz.sizeOf9
 v9:= Tryz.zeroValue9
 t21:= Tryz.underlying21
 a21:= Tryz.isAgg21
 z21:= Tryz.sizeOf21
 v21:= Tryz.zeroValue21
 t31:= Tryz.underlying32
 a31:= Tryz.isAgg32
 z31:= Tryz.sizeOf32
 v31:= Tryz.zeroValue32
 t46:= Tryz.underlying215
 a46:= Tryz.isAgg215
 z46:= Tryz.sizeOf215
 v46:= Tryz.zeroValue215
 t51:= Tryz.underlying136
 a51:= Tryz.isAgg136
 z51:= Tryz.sizeOf136
 v51:= Tryz.zeroValue136
 t105:= Tryz.underlying237
 a105:= Tryz.isAgg237
 z105:= Tryz.sizeOf237
 v105:= Tryz.zeroValue237
 t119:= Tryz.underlying266
 a119:= Tryz.isAgg266
 z119:= Tryz.sizeOf266
 t138:= Tryz.underlying268
 a138:= Tryz.isAgg268
 z138:= Tryz.sizeOf268
 v138:= Tryz.zeroValue268
 t139:= Tryz.underlying269
 a139:= Tryz.isAgg269
 z139:= Tryz.sizeOf269
 v139:= Tryz.zeroValue269
 t146:= Tryz.underlying249
 a146:= Tryz.isAgg249
 z146:= Tryz.sizeOf249
 v146:= Tryz.zeroValue249
 g1:=by kernel_rfl
 g3:=by kernel_rfl
 g4:=by kernel_rfl}
def Tryz.AK:Go.Shelf.Ren:=⟨fun | 143=>65 | 219=>140 | 217=>147 | 225=>176 | 224=>177 | 267=>178 | 266=>183 | 314=>203 | n=>n,fun | 9=>9 | 3=>3 | 4=>4 | 5=>5 | 46=>215 | 146=>249 | 51=>136 | n=>n,fun | 1=>0 | n=>n⟩
theorem Tryz.Np:Go.Proofs.Lays.n143 Tryz.prog Tryz.AK:={
 mixed:=by kernel_rfl
 f143:= Tryz.func65.trans (congrArg some (by kernel_rfl))
 f217:= Tryz.func147.trans (congrArg some (by kernel_rfl))
 f219:= Tryz.func140.trans (congrArg some (by kernel_rfl))
 f224:= Tryz.func177.trans (congrArg some (by kernel_rfl))
 f225:= Tryz.func176.trans (congrArg some (by kernel_rfl))
 f266:= Tryz.func183.trans (congrArg some (by kernel_rfl))
 f267:= Tryz.func178.trans (congrArg some (by kernel_rfl))
 f314:= Tryz.func203.trans (congrArg some (by kernel_rfl))
 t3:= Tryz.underlying3
 a3:= Tryz.isAgg3
 z3:= Tryz.sizeOf3
 v3:= Tryz.zeroValue3
 t4:= Tryz.underlying4
 a4:= Tryz.isAgg4
 z4:= Tryz.sizeOf4
 v4:= Tryz.zeroValue4
 t5:= Tryz.underlying5
 a5:= Tryz.isAgg5
 z5:= Tryz.sizeOf5
 v5:= Tryz.zeroValue5
 t9:= Tryz.underlying9
 a9:= Tryz.isAgg9
 z9:= Tryz.sizeOf9
 v9:= Tryz.zeroValue9
 t46:= Tryz.underlying215
 a46:= Tryz.isAgg215
 z46:= Tryz.sizeOf215
 v46:= Tryz.zeroValue215
 t51:= Tryz.underlying136
 a51:= Tryz.isAgg136
 z51:= Tryz.sizeOf136
 v51:= Tryz.zeroValue136
 t146:= Tryz.underlying249
 a146:= Tryz.isAgg249
 z146:= Tryz.sizeOf249
 v146:= Tryz.zeroValue249
 g1:=by kernel_rfl}
def Tryz.Al:Go.Shelf.Ren:=⟨fun | 138=>151 | 195=>185 | 218=>187 | 143=>65 | 219=>140 | 217=>147 | 225=>176 | 224=>177 | 267=>178 | 266=>183 | 314=>203 | n=>n,fun | 9=>9 | 3=>3 | 4=>4 | 5=>5 | 0=>0 | 46=>215 | 146=>249 | 51=>136 | n=>n,fun | 1=>0 | n=>n⟩
theorem Tryz.Oi:Go.Proofs.Lays.n138 Tryz.prog Tryz.Al:={
 mixed:=by kernel_rfl
 f138:= Tryz.func151.trans (congrArg some (by kernel_rfl))
 f143:= Tryz.func65.trans (congrArg some (by kernel_rfl))
 f195:= Tryz.func185.trans (congrArg some (by kernel_rfl))
 f217:= Tryz.func147.trans (congrArg some (by kernel_rfl))
 f218:= Tryz.func187.trans (congrArg some (by kernel_rfl))
 f219:= Tryz.func140.trans (congrArg some (by kernel_rfl))
 f224:= Tryz.func177.trans (congrArg some (by kernel_rfl))
 f225:= Tryz.func176.trans (congrArg some (by kernel_rfl))
 f266:= Tryz.func183.trans (congrArg some (by kernel_rfl))
 f267:= Tryz.func178.trans (congrArg some (by kernel_rfl))
 f314:= Tryz.func203.trans (congrArg some (by kernel_rfl))
 t0:= Tryz.underlying0
 a0:= Tryz.isAgg0
 z0:= Tryz.sizeOf0
 v0:= Tryz.zeroValue0
 t3:= Tryz.underlying3
 a3:= Tryz.isAgg3
 z3:= Tryz.sizeOf3
 v3:= Tryz.zeroValue3
 t4:= Tryz.underlying4
 a4:= Tryz.isAgg4
 z4:= Tryz.sizeOf4
 v4:= Tryz.zeroValue4
 t5:= Tryz.underlying5
 a5:= Tryz.isAgg5
 z5:= Tryz.sizeOf5
 v5:= Tryz.zeroValue5
 t9:= Tryz.underlying9
 a9:= Tryz.isAgg9
 z9:= Tryz.sizeOf9
 v9:= Tryz.zeroValue9
 t46:= Tryz.underlying215
 a46:= Tryz.isAgg215
 z46:= Tryz.sizeOf215
 v46:= Tryz.zeroValue215
 t51:= Tryz.underlying136
 a51:= Tryz.isAgg136
 z51:= Tryz.sizeOf136
 v51:= Tryz.zeroValue136
 t146:= Tryz.underlying249
 a146:= Tryz.isAgg249
 z146:= Tryz.sizeOf249
 v146:= Tryz.zeroValue249
 g1:=by kernel_rfl}
def Tryz.Aq:Go.Shelf.Ren:=⟨fun | 137=>83 | 217=>147 | 266=>183 | n=>n,fun | 9=>9 | 5=>5 | 3=>3 | n=>n,fun | n=>n⟩
theorem Tryz.L9:Go.Proofs.Lays.n137 Tryz.prog Tryz.Aq:={
 mixed:=by kernel_rfl
 f137:= Tryz.func83.trans (congrArg some (by kernel_rfl))
 f217:= Tryz.func147.trans (congrArg some (by kernel_rfl))
 f266:= Tryz.func183.trans (congrArg some (by kernel_rfl))
 t3:= Tryz.underlying3
 a3:= Tryz.isAgg3
 z3:= Tryz.sizeOf3
 v3:= Tryz.zeroValue3
 t5:= Tryz.underlying5
 a5:= Tryz.isAgg5
 z5:= Tryz.sizeOf5
 v5:= Tryz.zeroValue5
 t9:= Tryz.underlying9
 a9:= Tryz.isAgg9
 z9:= Tryz.sizeOf9
 v9:= Tryz.zeroValue9}
def Tryz.BU:Go.Shelf.Ren:=⟨fun | 99=>26 | 206=>67 | n=>n,fun | 9=>9 | 4=>4 | 3=>3 | n=>n,fun | n=>n⟩
theorem Tryz.T7:Go.Proofs.Lays.n99 Tryz.prog Tryz.BU:={
 mixed:=by kernel_rfl
 f99:= Tryz.func26.trans (congrArg some (by kernel_rfl))
 f206:= Tryz.func67.trans (congrArg some (by kernel_rfl))
 t3:= Tryz.underlying3
 a3:= Tryz.isAgg3
 z3:= Tryz.sizeOf3
 v3:= Tryz.zeroValue3
 t4:= Tryz.underlying4
 a4:= Tryz.isAgg4
 z4:= Tryz.sizeOf4
 v4:= Tryz.zeroValue4
 t9:= Tryz.underlying9
 a9:= Tryz.isAgg9
 z9:= Tryz.sizeOf9
 v9:= Tryz.zeroValue9}
def Tryz.z8:Go.Shelf.Ren:=⟨fun | 100=>40 | 207=>81 | n=>n,fun | 9=>9 | 4=>4 | 3=>3 | n=>n,fun | n=>n⟩
theorem Tryz.Mj:Go.Proofs.Lays.n100 Tryz.prog Tryz.z8:={
 mixed:=by kernel_rfl
 f100:= Tryz.func40.trans (congrArg some (by kernel_rfl))
 f207:= Tryz.func81.trans (congrArg some (by kernel_rfl))
 t3:= Tryz.underlying3
 a3:= Tryz.isAgg3
 z3:= Tryz.sizeOf3
 v3:= Tryz.zeroValue3
 t4:= Tryz.underlying4
 a4:= Tryz.isAgg4
 z4:= Tryz.sizeOf4
 v4:= Tryz.zeroValue4
 t9:= Tryz.underlying9
 a9:= Tryz.isAgg9
 z9:= Tryz.sizeOf9
 v9:= Tryz.zeroValue9}
def Tryz.zP:Go.Shelf.Ren:=⟨fun | 102=>42 | 209=>84 | 207=>81 | n=>n,fun | 9=>9 | 4=>4 | 3=>3 | n=>n,fun | n=>n⟩
theorem Tryz.MT:Go.Proofs.Lays.n102 Tryz.prog Tryz.zP:={
 mixed:=by kernel_rfl
 f102:= Tryz.func42.trans (congrArg some (by kernel_rfl))
 f207:= Tryz.func81.trans (congrArg some (by kernel_rfl))
 f209:= Tryz.func84.trans (congrArg some (by kernel_rfl))
 t3:= Tryz.underlying3
 a3:= Tryz.isAgg3
 z3:= Tryz.sizeOf3
 v3:= Tryz.zeroValue3
 t4:= Tryz.underlying4
 a4:= Tryz.isAgg4
 z4:= Tryz.sizeOf4
 v4:= Tryz.zeroValue4
 t9:= Tryz.underlying9
 a9:= Tryz.isAgg9
 z9:= Tryz.sizeOf9
 v9:= Tryz.zeroValue9}
def Tryz.AU:Go.Shelf.Ren:=⟨fun | 144=>23 | 143=>65 | 219=>140 | 217=>147 | 225=>176 | 224=>177 | 267=>178 | 266=>183 | 314=>203 | n=>n,fun | 9=>9 | 4=>4 | 3=>3 | 5=>5 | 46=>215 | 146=>249 | 51=>136 | n=>n,fun | 1=>0 | n=>n⟩
theorem Tryz.MC:Go.Proofs.Lays.n144 Tryz.prog Tryz.AU:={
 mixed:=by kernel_rfl
 f143:= Tryz.func65.trans (congrArg some (by kernel_rfl))
 f144:= Tryz.func23.trans (congrArg some (by kernel_rfl))
 f217:= Tryz.func147.trans (congrArg some (by kernel_rfl))
 f219:= Tryz.func140.trans (congrArg some (by kernel_rfl))
 f224:= Tryz.func177.trans (congrArg some (by kernel_rfl))
 f225:= Tryz.func176.trans (congrArg some (by kernel_rfl))
 f266:= Tryz.func183.trans (congrArg some (by kernel_rfl))
 f267:= Tryz.func178.trans (congrArg some (by kernel_rfl))
 f314:= Tryz.func203.trans (congrArg some (by kernel_rfl))
 t3:= Tryz.underlying3
 a3:= Tryz.isAgg3
 z3:= Tryz.sizeOf3
 v3:= Tryz.zeroValue3
 t4:= Tryz.underlying4
 a4:= Tryz.isAgg4
 z4:= Tryz.sizeOf4
 v4:= Tryz.zeroValue4
 t5:= Tryz.underlying5
 a5:= Tryz.isAgg5
 z5:= Tryz.sizeOf5
 v5:= Tryz.zeroValue5
 t9:= Tryz.underlying9
 a9:= Tryz.isAgg9
 z9:= Tryz.sizeOf9
 v9:= Tryz.zeroValue9
 t46:= Tryz.underlying215
 a46:= Tryz.isAgg215
 z46:= Tryz.sizeOf215
 v46:= Tryz.zeroValue215
 t51:= Tryz.underlying136
 a51:= Tryz.isAgg136
 z51:= Tryz.sizeOf136
 v51:= Tryz.zeroValue136
 t146:= Tryz.underlying249
 a146:= Tryz.isAgg249
 z146:= Tryz.sizeOf249
 v146:= Tryz.zeroValue249
 g1:=by kernel_rfl}
end Go.Proofs
end
section
set_option maxRecDepth 100000
set_option maxHeartbeats 4000000
namespace Go.Proofs.YtchiinjiflgepaaGreatDoor
open Go.AF
open Go.Proofs
theorem mxl: Tryz.prog.globalNamed "internal/bytealg.MaxLen" =some 0:=by kernel_rfl
theorem JT:(2,Lib.pow10Tab.map (PV.int .u64))∈kO Tryz.prog:=by
 have e:(kO Tryz.prog)[2]? =some (2,Lib.pow10Tab.map (PV.int .u64)):=by kernel_rfl
 exact Zi e
theorem Nh:(3,Bq.map (PV.int .u8))∈kO Tryz.prog:=by
 have e:(kO Tryz.prog)[1]? =some (3,Bq.map (PV.int .u8)):=by kernel_rfl
 exact Zi e
theorem kZ(n:Int)(h0:0<=n)(h1:n<10000000000000):Pure Tryz.prog 25 [.int .i64 n] (.str (sB (Lib.itoa n))):=
 Pure.qP (us:=[.int .i64 n]) (fun w I vs h=>by
  obtain⟨u,us,rfl,h2,h3⟩:=h
  have h2:u= .int .i64 n:=h2
  have h3:us=[]:=h3
  rw[h2,h3]) fun w I hg=>(Any.strconv_Itoa Tryz.Iz n (by omega) (by omega) w (Tv (g:=2) hg JT (by kernel_rfl))).mono fun e w' ⟨h1,k,os,h2⟩=>⟨_,h1,fun _ _=>rfl,k,os,h2⟩
theorem pn{a b:ByteArray}:∀(w:World) (I:Nat->Prop) (vs:List Value),aR w I [.str a,.str b] vs->vs=[.string a,.string b]:=fun w I vs h=>by
 obtain⟨u0,R9,rfl,k0,u1,N4,rfl,k1,k2⟩:=h
 have k0:u0= .string a:=k0
 have k1:u1= .string b:=k1
 have k2:N4=[]:=k2
 rw[k0,k1,k2]
theorem lq(s t:Bs)(hs:s.length<=9223372036854775807):Pure Tryz.prog 40 [.str (sB s),.str (sB t)] (.bool (t.isSuffixOf s)):=
 Pure.qP (us:=[.string (sB s),.string (sB t)]) pn fun w I hg=>(Any.strings_HasSuffix Tryz.Mj (sB s) (sB t) w (by rw[dO];exact hs)).mono fun e w' ⟨h1,h2⟩=>⟨_,h1,fun _ _=>by show Value.bool _=_;rw[eg,eg];rfl,0,#[],by rw[h2,Go.Sort.grow_empty];rfl⟩
theorem yD(s t:Bs):Pure Tryz.prog 26 [.str (sB s),.str (sB t)] (.bool (t.isPrefixOf s)):=
 Pure.qP (us:=[.string (sB s),.string (sB t)]) pn fun w I hg=>(Any.strings_HasPrefix Tryz.T7 (sB s) (sB t) w).mono fun e w' ⟨h1,h2⟩=>⟨_,h1,fun _ _=>by show Value.bool _=_;rw[eg,eg];rfl,0,#[],by rw[h2,Go.Sort.grow_empty];rfl⟩
theorem wu(s t:Bs)(hs:s.length<=9223372036854775807):Pure Tryz.prog 42 [.str (sB s),.str (sB t)] (.str (sB (Lib.trimSuffix s t))):=
 Pure.qP (us:=[.string (sB s),.string (sB t)]) pn fun w I hg=>(Any.strings_TrimSuffix Tryz.MT (sB s) (sB t) w (by rw[dO];exact hs)).mono fun e w' ⟨h1,h2⟩=>⟨_,h1,fun _ _=>by show Value.string _=_;rw[eg,eg];rfl,0,#[],by rw[h2,Go.Sort.grow_empty];rfl⟩
theorem y3(s:Bs)(c:UInt8):Pure Tryz.prog 83 [.str (sB s),.int .u8 (c.toNat:Int)] (.int .i64 (Lib.indexByte s c)):=
 Pure.qP (us:=[.string (sB s),.int .u8 (c.toNat:Int)]) (fun w I vs h=>by
  obtain⟨u0,R9,rfl,k0,u1,N4,rfl,k1,k2⟩:=h
  have k0:u0= .string (sB s):=k0
  have k1:u1= .int .u8 (c.toNat:Int):=k1
  have k2:N4=[]:=k2
  rw[k0,k1,k2]) fun w I hg=>(Any.strings_IndexByte Tryz.L9 (sB s) (c.toNat:Int) w).mono fun e w' ⟨h1,h2⟩=>⟨_,h1,fun _ _=>by
   show Value.int _ _=_
   rw[eg,BN,show c.toNat.toUInt8=c from by simp],0,#[],by rw[h2,Go.Sort.grow_empty];rfl⟩
theorem w7(w:World)(I:Nat->Prop):∀ ss:List ByteArray,aR w I (ss.map PV.str) (ss.map Value.string)
 | []=>rfl
 | x::xs=>⟨_,_,rfl,rfl,w7 w I xs⟩
theorem Pure.SG{f:FuncId}{us:List Value}{args:List PV}{ss:List ByteArray}{t:TypeId}(cH:∀ w I vs,aR w I args vs->vs=us)(h:∀(w:World) (I:Nat->Prop),DR Tryz.prog w I->Calls Tryz.prog f us.toArray w fun e w'=>e= .returned (.slice (some ⟨w.heap.size,0,none⟩) ss.length ss.length)∧w'=w.alloc (.cells (ss.map Value.string).toArray t)):Pure Tryz.prog f args (.is (ss.map PV.str) ss.length):=by
 intro w I ρ vs hi hvs
 have e:=cH w I vs (ah.pure.1 hvs)
 subst e
 refine CallsIn.mono ((callsIn_wide (n:=0)).2 (h w I hi.gl)) ?_
 rintro e w' ⟨rfl,rfl⟩
 refine⟨_,.p _,fun b=>I b∨b=w.heap.size,ρ,[],rfl,⟨rfl,rfl⟩,Ext.gN hi _,hi.gN _,?_⟩
 refine .inr ⟨w.heap.size,0,ss.length,fun _=> .inr rfl,Zg _,rfl,?_⟩
 refine aT.lC (ss.map PV.str) (ss.map Value.string) 0 ?_ ?_
 ·exact w7 _ _ ss
 ·intro j u hu
  have e:(w.alloc (.cells (ss.map Value.string).toArray t)).heap[w.heap.size]? =some (.cells (ss.map Value.string).toArray t):=Array.getElem?_push_size
  unfold World.cell?
  simp only[e,zq]
  simpa using hu
theorem Av{c:UInt8}(ws:List Bs)(h0:0<ws.length)(h:∀ x∈ws,LW c x)(hs:(c4 c ws).length<=1000000):Pure Tryz.prog 89 [.str (sB (c4 c ws)),.str (sB [c]),.int .i64 0,.int .i64 (-1)] (.is ((ws.map sB).map PV.str) (ws.map sB).length):=by
 refine Pure.SG (us:=[.string (sB (c4 c ws)),.string (sB [c]),.int .i64 0,.int .i64 (-1)]) (t:=9) (fun w I vs h=>by
  obtain⟨u0,R9,rfl,k0,u1,N4,rfl,k1,u2,vs2,rfl,k2,u3,vs3,rfl,k3,k4⟩:=h
  have k0:u0= .string (sB (c4 c ws)):=k0
  have k1:u1= .string (sB [c]):=k1
  have k2:u2= .int .i64 0:=k2
  have k3:u3= .int .i64 (-1):=k3
  have k4:vs3=[]:=k4
  rw[k0,k1,k2,k3,k4]) fun w I hg=> ?_
 have hsz:(sB (c4 c ws)).size<=1000000:=by rw[dO];exact hs
 have hL:=IA ws h0 h
 have hcn:=J6 ws h0 h
 have hle:=Bd (c:=c) ws
 have k:=Any.strings_genSplit_core Tryz.MP (by kernel_rfl) (sB (c4 c ws)) (sB [c]) 0 (-1) ws.length w (by omega) (by show 1<=1;decide) (Zl _)
  (fun x cc hx=>(Any.strings_Index_one Tryz.Np x c _).mono fun e w' ⟨h1,h2⟩=>⟨by rw[h1];show _=Ending.returned (.int .i64 (Lib.index x.data.toList (sB [c]).data.toList));rw[eg,Lib.index_one],h2⟩)
  ((Any.strings_Count_one Tryz.Oi (sB (c4 c ws)) c w).mono fun e w' ⟨h1,h2⟩=>⟨by rw[h1];show _=Ending.returned (.int .i64 ((Lib.count (sB (c4 c ws)).data.toList [c]:Nat):Int));rw[Lib.count_one];rfl,h2⟩) (by decide) (by decide)
  (by rw[if_pos (by decide),hcn,dO];push_cast;omega)
 refine k.mono fun e w' ⟨h1,h2⟩=> ?_
 rw[hL] at h1 h2
 refine⟨?_,?_⟩
 ·rw[h1];simp
 ·rw[h2,show ws.length=(ws.map sB).length by simp,Lib.cellsOf_full];rfl
theorem Hh(ws:List Bs):PV.is ((ws.map sB).map PV.str) (ws.map sB).length=b9 ws:=by
 unfold b9
 rw[Zq,Ob]
 congr 1
 induction ws with
 | nil=>rfl
 | cons x xs ih=>rw[ZD,ZJ,ih];rfl
theorem aaq:Go.Proofs.Builder.Extra Tryz.prog Tryz.sD where
 sizeBuilder:=by kernel_rfl
 liesBuilder:=by kernel_rfl
 t5:= Tryz.underlying5
 a5:=run_isAgg_plain Tryz.underlying5 rfl
 z5:= Tryz.sizeOf5
 v5:= Tryz.zeroValue5
 infoByte:=by kernel_rfl
 cellsByte:=by kernel_rfl
 sizeByte:=by kernel_rfl
 neB5:=by decide
theorem uU{w:World}{I:Nat->Prop}:∀(ss:List ByteArray) (b o:Nat),aT w I (ss.map PV.str) b o->∀(j:Nat) x,ss[j]? =some x->w.cell? ⟨b,o+j,none⟩=some (.string x)
 | [],_,_,_,j,x,h=>by simp at h
 | y::ss,b,o,⟨⟨u,h1,h2⟩,h3⟩,j,x,h=>by
  cases j with
  | zero=>
   have h2:u= .string y:=h2
   simp at h
   rw[<- h,<- h2];exact h1
  | succ j=>
   have:=uU ss b (o+1) h3 j x (by simpa using h)
   rwa [show o+1+j=o+(j+1) by omega] at this
theorem nG(ws:List Bs)(c:UInt8)(h0:0<ws.length)(hl:ws.length<=1000000)(hs:(c4 c ws).length<=1000000):Pure Tryz.prog 85 [b9 ws,.str (sB [c])] (.str (sB (c4 c ws))):=by
 rw[<- Hh]
 intro w I ρ vs hi hvs
 obtain⟨u0,R9,rfl,k0,u1,N4,rfl,k1,k2⟩:=ah.pure.1 hvs
 have k1:u1= .string (sB [c]):=k1
 have k2:N4=[]:=k2
 subst k1 k2
 have hlen:(ws.map sB).length=ws.length:=Zq ..
 rcases k0 with⟨_,h⟩ | ⟨b,o,cap,hI,hcap,rfl,eJ⟩
 ·omega
 ·have hne:(ws.map sB).map PV.str≠[]:=by intro e;have:=congrArg List.length e;simp at this;rw[this] at h0;cases h0
  have hbI:=hI hne
  have hj:Lib.join ((ws.map sB).map (·.data.toList)) (sB [c]).data.toList=c4 c ws:=by
   rw[eg,Ob,show((fun x:ByteArray=>x.data.toList)∘sB)=id from funext eg,List.map_id,It]
  refine CallsIn.mono ((callsIn_wide (n:=0)).2 (Any.strings_Join Tryz.MS aaq b o cap (ws.map sB) (sB [c]) w (uU _ _ _ eJ) (hi.ib _ hbI) (by omega) hcap (by rw[hj];omega))) ?_
  rintro e w' ⟨rfl,hb⟩
  obtain⟨h1,h2⟩:=Ext.below hi hb
  refine⟨_,.p _,I,ρ,[],rfl,⟨rfl,rfl⟩,h1,h2,?_⟩
  show Value.string _=_
  rw[hj]
  rfl
end Go.Proofs.YtchiinjiflgepaaGreatDoor
end
section
set_option maxRecDepth 100000
set_option maxHeartbeats 4000000
namespace Go.Proofs.YtchiinjiflgepaaGreatDoor
open Go.AF
theorem uq(e:Int):Pure Tryz.prog 53 [.bool true,.int .i64 e] (.tuple []):=by
 refine Kf (N:=9) Tryz.func53 ?_
 iterate 5 refine af ?_
 refine aB.jT rfl ?_
 refine af ?_
 exact⟨.inl rfl,eK.none_ rfl⟩
theorem Ng(e:Int):si Tryz.prog 53 [.bool false,.int .i64 e] (.iface 106 (.agg [.int .i64 e])):=by
 refine av.start (N:=9) Tryz.func53 rfl rfl Kn ?_
 iterate 5 refine af ?_
 refine aB.pQ rfl ?_
 iterate 3 refine af ?_
 refine Kc (aa.aD rfl rfl Il) ?_
 refine aj.panic rfl rfl rfl ?_
 exact⟨_,rfl,rfl⟩
theorem dh(b:Bool)(e:Int)(hb:b=true):Pure Tryz.prog 53 [.bool b,.int .i64 e] (.tuple []):=by subst hb;exact uq e
theorem de(b:Bool)(e:Int)(hb:b=false):si Tryz.prog 53 [.bool b,.int .i64 e] (.iface 106 (.agg [.int .i64 e])):=by subst hb;exact Ng e
theorem jS(e:Int)(he:decide (e=0)=true):Pure Tryz.prog 99 [.int .i64 e] (.tuple []):=by
 refine Kf (N:=6) Tryz.func99 ?_
 iterate 4 refine af ?_
 refine aj.cg 5 (b:=(decide (e=0))) (dh (decide (e=0)) e) (de (decide (e=0)) e) rfl rfl rfl rfl rfl rfl rfl an (fun hb=> ?_) (fun hb=> ?_)
 ·rw[he] at hb
  cases hb
 refine af ?_
 exact⟨.inl rfl,eK.none_ rfl⟩
theorem nE(e:Int)(he:decide (e=0)=false):si Tryz.prog 99 [.int .i64 e] (.iface 106 (.agg [.int .i64 e])):=by
 refine av.start (N:=6) Tryz.func99 rfl rfl Kn ?_
 iterate 4 refine af ?_
 refine aj.cg 5 (b:=(decide (e=0))) (dh (decide (e=0)) e) (de (decide (e=0)) e) rfl rfl rfl rfl rfl rfl rfl an (fun hb=> ?_) (fun hb=> ?_)
 ·exact⟨_,rfl,rfl⟩
 rw[he] at hb
 cases hb
theorem OC(l:List Int)(k:Nat)(hk:k=l.length)(h2:2<=l.length):Pure Tryz.prog 153 [.is (l.flatMap Di.cE) k] (.agg [.int .i64 (nn l 0),.int .i64 (nn l 1)]):=by
 subst hk
 refine Kf (N:=10) Tryz.func153 ?_
 iterate 5 refine af ?_
 refine aB.az 7 mixed (by kernel_rfl) (by decide) ?_
 refine af ?_
 refine Kq (aa.aJ (g:=Di.gt 0 l) (k:=0) (Di.aC _) rfl rfl rfl an dA rfl (fun _=>rfl) (by decide) (by omega)) ?_
 refine Kq (Kl (.p (.int .i64 (nn l 0)))) ?_
 refine af ?_
 refine Kq (aa.aJ (g:=Di.gt 0 l) (k:=1) (Di.aC _) rfl rfl rfl an dA rfl (fun _=>rfl) (by decide) (by omega)) ?_
 refine Kq (Kl (.p (.int .i64 (nn l 1)))) ?_
 refine Kq (aa.build rfl an rfl rfl) ?_
 refine ay.nil ?_
 exact NL
theorem DC(a b:Int):Pure Tryz.prog 155 [.int .i64 a,.int .i64 b] (.agg (bW a b).cells):=by
 refine Kf (N:=10) Tryz.func155 ?_
 iterate 14 refine af ?_
 exact Fin.one rfl (⟨_,_,_,rfl,an,rfl⟩)
theorem MV(n k:Nat)(h0:0<n)(h:n<2^32)(hl:n&&& (2^64 - n)=2^k)(hk:k<64):Pure Tryz.prog 197 [.int .u64 (n:Int)] (.int .i64 ((k:Nat):Int)):=by
 have hT:(Bq.map (PV.int .u8))[(((2^k*285870213051353865%18446744073709551616 / 2^58:Nat):Int)).toNat*1]? =some (.int .u8 ((k:Nat):Int)):=by rw[Gv,BN,Zu,K0 k hk];rfl
 refine Kf (N:=14) Tryz.func197 ?_
 iterate 10 refine af ?_
 refine Ki (fun hc0=> ?_) fun hc0=> ?_
 ·exact BZ
 ·iterate 5 refine af ?_
  refine Kc (aa.neg (m:=((2^64 - n:Nat):Int)) rfl rfl ?_) ?_
  ·exact S2 h0 h
  refine Kc (aa.nh n (2^64 - n) rfl rfl rfl (by first | (show _<=(9223372036854775807:Int);omega) | (show _<=(4294967295:Int);omega) | (show _<=(18446744073709551615:Int);omega) | (show _<=(255:Int);omega) | (show _<=(65535:Int);omega)) (by first | decide | (show _<=(9223372036854775807:Int);omega) | (show _<=(4294967295:Int);omega) | (show _<=(18446744073709551615:Int);omega) | (show _<=(255:Int);omega) | (show _<=(65535:Int);omega))) ?_
  rw[hl]
  refine Kc (aa.mul (m:=((2^k*285870213051353865%18446744073709551616:Nat):Int)) rfl rfl rfl ?_) ?_
  ·exact S5 k
  refine Kc (aa.vQ (2^k*285870213051353865%18446744073709551616) 58 rfl rfl rfl (by first | decide | (show _<=(9223372036854775807:Int);omega) | (show _<=(4294967295:Int);omega) | (show _<=(18446744073709551615:Int);omega) | (show _<=(255:Int);omega) | (show _<=(65535:Int);omega))) ?_
  refine Kc (aa.xJ (Qn:=Bq.map (PV.int .u8)) Nh rfl rfl Vf Xl (by omega) (by omega)) ?_
  exact V4
theorem Ld(n k:Nat)(h0:0<n)(h:n<2^32)(hl:n&&& (2^64 - n)=2^k)(hk:k<64):Pure Tryz.prog 158 [.int .u64 (n:Int)] (.int .i64 ((k:Nat):Int)):=by
 refine Kf (N:=8) Tryz.func158 ?_
 iterate 5 refine af ?_
 refine aB.jT rfl ?_
 iterate 4 refine af ?_
 refine Kc (Kp (MV n k h0 h hl hk)) ?_
 exact kL
theorem oP(n:Nat)(hn:n<2^24):Pure Tryz.prog 100 [.int .i64 (n:Int)] (Di.bI (fB n)):=by
 have mC:(2:Nat)^24=16777216:=by decide
 have h32:(2:Nat)^32=4294967296:=by decide
 have aaN:n<2^32:=by omega
 refine Kf (N:=19) Tryz.func100 ?_
 iterate 12 refine af ?_
 refine Kc (aa.di rfl rfl (by rw[yj];rfl) zY (mT ?_)) ?_
 ·omega
 iterate 3 refine af ?_
 refine aB.cR [2,18] (fun g=>[(4,.p (.int .u64 ((Rx.pX n g:Nat):Int))),(3,kJ 0 (bl n g).length)]) (fun g=>[dN (((bl n g).flatMap Di.cE).map .p) 3 (bl n g).length]) (fun g=>g<=32) (fun g=>32 - g) 0 (Zl _) (To.pad.trans (To.sub (Sub.xx (Sub.cons (by show some (V.p (.int .u64 ((n:Nat):Int)))=_;rw[Rx.DM]) (Sub.cons rfl Sub.nil))))) (fun p hp=> ?_)
 have hle:=Rx.QY n p
 iterate 6 refine af ?_
 refine Ki (fun hc0=> ?_) fun hc0=> ?_
 ·have hne:Rx.pX n p≠0:=by intro h;rw[h] at hc0;simp at hc0
  obtain⟨k,hpk,R2,hlow,RY,JJ⟩:=Rx.DG aaN hp hne
  iterate 6 refine af ?_
  refine Kc (Kp (Ld (Rx.pX n p) k (by omega) (by omega) (V0 hne (by omega) hlow) (by omega))) ?_
  refine Kc (aa.aU rfl an (by decide) rfl rfl rfl) ?_
  refine Kc (aa.kW rfl rfl rfl an an rfl ?_ rfl (by decide) rfl an (by decide) ?_) ?_
  ·exact F5
  ·have:=Un n p;show(2*((bl n p).length+1)+192)*8<=281474976710656;omega
  iterate 5 refine af ?_
  refine Kc (aa.iC (m:=((Rx.pX n p - 1:Nat):Int)) rfl rfl rfl ((mT ?_).trans ?_)) ?_
  ·omega
  ·omega
  refine Kc (aa.nh (Rx.pX n p) (Rx.pX n p - 1) rfl rfl rfl (by first | (show _<=(9223372036854775807:Int);omega) | (show _<=(4294967295:Int);omega) | (show _<=(18446744073709551615:Int);omega) | (show _<=(255:Int);omega) | (show _<=(65535:Int);omega)) (by first | decide | (show _<=(9223372036854775807:Int);omega) | (show _<=(4294967295:Int);omega) | (show _<=(18446744073709551615:Int);omega) | (show _<=(255:Int);omega) | (show _<=(65535:Int);omega))) ?_
  iterate 2 refine af ?_
  refine⟨k+1,?_,?_,?_⟩
  ·show k+1<=32
   omega
  ·show 32 - (k+1)<32 - p
   omega
  have VT:(bl n (k+1)).length=(bl n p).length+1:=by unfold bl;rw[JJ];simp
  have eL:(bl n (k+1)).flatMap Di.cE=(bl n p).flatMap Di.cE++[.int .i64 (k:Int)]:=by unfold bl;rw[JJ];simp[Di.cE]
  rw[VT,eL]
  refine To.done [1] rfl (Sub.cons (by show some (V.p (.int .u64 _))=_;rw[RY]) KS) ?_
  show[ai.row (bn _ (_++_)) _]=[ai.row _ _]
  rw[bD,aY,ZH]
  rfl
 ·have hz:Rx.pX n p=0:=by have h:((Rx.pX n p:Nat):Int)=0:=(by simpa using hc0);omega
  have hall:=Rx.EI hp hz
  refine aB.to (To.Wo 3 0 (bl n p).length (xs:=(bl n p).flatMap Di.cE) rfl rfl (fun h=>by rw[Uc.1 h];rfl)) ?_
  refine aB.exit ?_
  iterate 6 refine af ?_
  refine Fin.gw rfl rfl ?_
  rw[Gq hn,hall]
  rfl
theorem x7(s:Bs)(hs:s.length<=1000000):av Tryz.prog 112 [.p (.str (sB s))] [] (fun v H2=>gS s∧v= .p (.int .i64 (gz s))∧H2=[]) (fun y H2=>¬ gS s∧y=(.iface 106 (.agg [.int .i64 8]))∧H2=[]):=by
 refine av.start (N:=44) Tryz.func112 rfl rfl Kn ?_
 iterate 7 refine af ?_
 refine Kc (aa.qq s [] rfl rfl rfl) ?_
 refine af ?_
 refine Kg 8 7 0 rfl (fun h=>(aa.move rfl rfl)) ?_
 refine Kh 9 7 8 rfl rfl rfl rfl (fun h=>(aa.iJ rfl rfl Gz)) ?_
 refine Kh 10 7 9 rfl rfl rfl rfl (fun h=>(aa.leq rfl rfl rfl)) ?_
 refine Kc (aa.dM rfl rfl rfl ?_) ?_
 ·exact eM
 refine af ?_
 refine Kg 13 12 0 rfl (fun h=>(aa.move rfl rfl)) ?_
 refine Kh 14 12 13 rfl rfl rfl rfl (fun h=>(aa.rV s [48] rfl rfl rfl)) ?_
 refine Kh 15 12 14 rfl rfl rfl rfl (fun h=>(aa.move rfl rfl)) ?_
 refine Kg 16 15 0 rfl (fun h=>(aa.move rfl rfl)) ?_
 refine Kh 17 15 16 rfl rfl rfl rfl (fun h=>(aa.X9 s 0 (Di.gt 0 s 0) rfl rfl rfl an (by have h2:=(Bool.and_eq_true_iff.1 h).1;have h3:=(Bool.and_eq_true_iff.1 (eq_of_beq h2)).1;have h4:s≠[]:=(by simpa using h3);have h5:=List.length_pos_iff.2 h4;rw[Zd h5,Di.aC 0 0 h5]))) ?_
 refine Kh 18 15 17 rfl rfl rfl rfl (fun h=>(aa.neq rfl rfl rfl)) ?_
 refine aj.g 19 12 rfl rfl rfl rfl rfl rfl rfl [(15,_),(18,_)] (fun h=>And.intro (.inr ⟨_,rfl,h⟩) (And.intro (.inl rfl) (trivial))) (fun h=>(aa.me rfl rfl rfl ?_)) ?_
 ·exact eM
 refine Kc (aa.dM rfl rfl rfl ?_) ?_
 ·exact eM
 refine aj.cg 21 (b:=_) (dh _ 8) (de _ 8) rfl rfl rfl rfl rfl rfl rfl an (fun hb=> ?_) (fun hb=> ?_)
 ·exact⟨_,rfl,(Wa hb).2 rfl,rfl,rfl⟩
 have hy:=(Wa hb).1 rfl
 have Y5:=hy.2.1
 iterate 5 refine af ?_
 refine Kc (aa.isR (aa.K8 s rfl rfl an an) (ED s)) ?_
 iterate 4 refine af ?_
 refine aB.cR [23,24,43] (fun g=>[(25,.p (.int .i64 ((g:Nat):Int))),(2,.p (.int .i64 ((oG (s.take g):Nat):Int)))]) (fun g=>[]) (fun g=>g<=s.length∧∀ j,j<g->uo (Di.gt 0 s j)=true) (fun g=>s.length - g) 0 ⟨Zl _,fun j hj=>absurd hj (by omega)⟩ (To.sub (Sub.xx (Sub.cons rfl (Sub.cons rfl (Sub.nil))))) (fun i ⟨zF,ou⟩=> ?_)
 iterate 5 refine af ?_
 refine Ki (fun hc0=> ?_) fun hc0=> ?_
 ·have hk0:i<s.length:=by have h:=Zf hc0;omega
  have hb9:=(Di.gt 0 s i).toNat_lt
  iterate 5 refine af ?_
  refine Kc (aa.aJ (g:=Di.gt 0 s) (Di.aC _) rfl rfl rfl an aaK rfl (fun _=>rfl) (by decide) hk0) ?_
  refine Kc (Kl (.p (.int .u8 (((Di.gt 0 s i)).toNat:Int)))) ?_
  iterate 7 refine af ?_
  refine Kg 32 31 4 rfl (fun h=>(aa.move rfl rfl)) ?_
  refine Kh 33 31 32 rfl rfl rfl rfl (fun h=>(aa.leq rfl rfl rfl)) ?_
  refine Kc (aa.dM rfl rfl rfl ?_) ?_
  ·exact eM
  refine aj.cg 35 (b:=_) (dh _ 8) (de _ 8) rfl rfl rfl rfl rfl rfl rfl an (fun iq=> ?_) (fun iq=> ?_)
  ·exact⟨_,rfl,M5 hk0 (JP iq),rfl,rfl⟩
  have W4:=JP iq
  have hdd:=AA W4
  have hvs:=Af hk0
  have hv:=AV (s:=s) (i:=i) (by omega) Y5 ou
  iterate 3 refine af ?_
  refine Kc (aa.mul (m:=((10*oG (s.take i):Nat):Int)) rfl rfl rfl ((aH ?_).trans ?_)) ?_
  ·omega
  ·omega
  refine af ?_
  refine Kc (aa.iC (m:=((((Di.gt 0 s i)).toNat - 48:Nat):Int)) rfl rfl rfl ((aaX ?_).trans ?_)) ?_
  ·omega
  ·omega
  refine Kc (aa.di rfl rfl (by rw[WA];rfl) yj (aH ?_)) ?_
  ·omega
  refine Kc (aa.add (m:=((oG (s.take (i+1)):Nat):Int)) rfl rfl rfl ((aH ?_).trans ?_)) ?_
  ·omega
  ·omega
  iterate 3 refine af ?_
  refine Kc (aa.add rfl rfl rfl (aH ?_)) ?_
  ·omega
  iterate 2 refine af ?_
  refine⟨i+1,?_,?_,?_⟩
  ·exact⟨hk0,fun j hj=>by rcases ZZ.1 hj with h | rfl;exact ou j h;exact W4⟩
  ·omega
  exact wQ
 ·have hi2:i=s.length:=by have h:=Zh hc0;omega
  subst hi2
  have hC:=Rq hy ou
  have hyes:=y8 hC
  refine aB.exit ?_
  iterate 6 refine af ?_
  refine iB.one (v:= .p (.int .i64 ((oG (s.take s.length):Nat):Int))) rfl rfl ⟨hC,?_,rfl⟩
  unfold gz
  rw[hyes,ZQ]
  rfl
instance (s:Bs):Decidable (gS s):=by unfold gS;infer_instance
theorem AH(s:Bs)(hs:s.length<=1000000)(h:decide (gS s)=true):Pure Tryz.prog 112 [.str (sB s)] (.int .i64 (gz s)):=
 ((x7 s hs).mono (WI:=fun v H2=>v= .p (.int .i64 (gz s))∧H2=[]) (Vq:=fun _ _=>False) (fun v H2 ⟨_,h1,h2⟩=>⟨h1,h2⟩) (fun y H2 ⟨h1,_⟩=>h1 (Zf h))).toC (fun _ _ h=>h)
theorem H8(s:Bs)(hs:s.length<=1000000)(h:decide (gS s)=false):si Tryz.prog 112 [.str (sB s)] (.iface 106 (.agg [.int .i64 8])):=
 (x7 s hs).mono (fun v H2 ⟨h1,_⟩=>Zh h h1) (fun y H2 ⟨_,h1,_⟩=>h1)
def iM.v:iM->PV
 | .str w=> .iface 9 (.str (sB w))
 | .num k=> .iface 3 (.int .i64 k)
 | .BY l=> .iface 39 (Di.bI l)
def iM.v1(p:iM):List PV:=[p.v]
def W3(l:List iM):PV:= .is (l.flatMap iM.v1) l.length
theorem aae(p:iM):Ei Tryz.prog 9 p.v (.tuple [.str (sB p.sV),.bool p.L1]):=by
 cases p with
 | str l=>exact⟨_,_,rfl,.inl ⟨rfl,rfl⟩⟩
 | num i=>exact⟨_,_,rfl,.inr ⟨rfl,_,an,rfl⟩⟩
 | BY s=>exact⟨_,_,rfl,.inr ⟨rfl,_,an,rfl⟩⟩
theorem aao(p:iM):Ei Tryz.prog 3 p.v (.tuple [.int .i64 p.nV,.bool p.Z1]):=by
 cases p with
 | str l=>exact⟨_,_,rfl,.inr ⟨rfl,_,an,rfl⟩⟩
 | num i=>exact⟨_,_,rfl,.inl ⟨rfl,rfl⟩⟩
 | BY s=>exact⟨_,_,rfl,.inr ⟨rfl,_,an,rfl⟩⟩
theorem aab(p:iM):Ei Tryz.prog 39 p.v (.tuple [p.lV,.bool p.YC]):=by
 cases p with
 | str l=>exact⟨_,_,rfl,.inr ⟨rfl,_,an,rfl⟩⟩
 | num i=>exact⟨_,_,rfl,.inr ⟨rfl,_,an,rfl⟩⟩
 | BY s=>exact⟨_,_,rfl,.inl ⟨rfl,rfl⟩⟩
theorem WY{p:iM}(h:p.L1=true):p= .str p.sV:=by cases p <;> first | rfl | cases h
theorem Qw{p:iM}(h:p.Z1=true):p= .num p.nV:=by cases p <;> first | rfl | cases h
theorem W8{p:iM}(h:p.YC=true):∃ l,p= .BY l:=by cases p <;> first | exact⟨_,rfl⟩ | cases h
theorem OE{p:iM}(h1:p.L1=false)(h2:p.Z1=false)(h3:p.YC=false):False:=by cases p <;> simp_all [iM.L1,iM.Z1,iM.YC]
theorem pg(s:Bs)(hs:s.length<=1000000):Pure Tryz.prog 51 [.str (sB s),.str (sB [32])] (b9 (cj s)):=by
 have hj:c4 32 (cj s)=s:=tN 32 s []
 have hnb:∀ x∈cj s,LW 32 x:=yW 32 s [] (fun y hy=>by cases hy)
 have hg:=Av (cj s) (qK s) hnb (by rw[hj];exact hs)
 rw[hj,Hh] at hg
 refine Kf (N:=8) Tryz.func51 ?_
 iterate 8 refine af ?_
 refine Kc (Kp (hg)) ?_
 exact kL
theorem c8(ps:List iM)(h0:0<(jq ps).length)(hn:ps.length<=50)(hok:∀ p∈ps,p.ok):Pure Tryz.prog 43 [W3 ps] (.str (sB (c4 32 (jq ps)))):=by
 have ku:=DI hok
 have hwB:=U2 hok
 refine Kf (N:=51) Tryz.func43 ?_
 iterate 16 refine af ?_
 refine aB.cR [2,11,12,49,50] (fun g=>[(13,.p (.int .i64 ((g:Nat):Int))),(3,kJ 0 (jq (ps.take g)).length)]) (fun g=>[dN ((((jq (ps.take g))).flatMap iF).map .p) 9 ((jq (ps.take g))).length]) (fun g=>g<=ps.length) (fun g=>ps.length - g) 0 (Zl _) (To.pad.trans (To.sub (Sub.xx (Sub.cons rfl (Sub.cons rfl Sub.nil))))) (fun i hg=> ?_)
 iterate 5 refine af ?_
 refine Ki (fun hc0=> ?_) fun hc0=> ?_
 ·have hk0:i<ps.length:=by have h:=Zf hc0;omega
  have Yz:=hok _ (Di.bq (.str []) hk0)
  have hwi:=G0 ps i
  iterate 5 refine af ?_
  refine Kc (aa.aJ (g:=Di.gt (.str []) ps) (Di.aC _) rfl rfl rfl an XJ rfl (fun _=>rfl) (by decide) hk0) ?_
  refine Kc (Kl (.p (Di.gt (.str []) ps i).v)) ?_
  iterate 9 refine af ?_
  refine Kc (aa.Y3 rfl rfl lA (aae _)) ?_
  iterate 3 refine af ?_
  refine Ki (fun cF=> ?_) fun cF=> ?_
  ·iterate 7 refine af ?_
   refine Kc (aa.aU rfl an (by decide) rfl rfl rfl) ?_
   refine Kc (aa.kW rfl rfl rfl an an rfl ?_ rfl (by decide) rfl an (by decide) ?_) ?_
   ·exact F5
   ·(try simp only[Zb,Zq]);show(2*(_+1)+192)*16<=281474976710656;omega
   iterate 3 refine af ?_
   refine Kc (aa.add rfl rfl rfl (aH ?_)) ?_
   ·omega
   iterate 2 refine af ?_
   refine⟨i+1,?_,?_,?_⟩
   ·exact hk0
   ·omega
   have eW:(jq (ps.take (i+1)))=(jq (ps.take i))++[(Di.gt (.str []) ps i).sV]:=by rw[zl hk0];(conv=>lhs;rw[WY cF]);rfl
   have VT:((jq (ps.take (i+1)))).length=((jq (ps.take i))).length+1:=by rw[eW,Zb];rfl
   have eL:((jq (ps.take (i+1)))).flatMap iF=((jq (ps.take i))).flatMap iF++iF (Di.gt (.str []) ps i).sV:=by rw[eW,FQ];simp
   exact OQ
  ·iterate 2 refine af ?_
   refine Kc (aa.Y3 rfl rfl jV (aao _)) ?_
   iterate 3 refine af ?_
   refine Ki (fun gW=> ?_) fun gW=> ?_
   ·have hkn:0<=(Di.gt (.str []) ps i).nV∧(Di.gt (.str []) ps i).nV<10000000000000:=by rw[Qw gW] at Yz;exact Yz
    iterate 7 refine af ?_
    refine Kc (Kp (kZ (Di.gt (.str []) ps i).nV (by omega) (by omega))) ?_
    refine Kc (aa.aU rfl an (by decide) rfl rfl rfl) ?_
    refine Kc (aa.kW rfl rfl rfl an an rfl ?_ rfl (by decide) rfl an (by decide) ?_) ?_
    ·exact F5
    ·(try simp only[Zb,Zq]);show(2*(_+1)+192)*16<=281474976710656;omega
    iterate 3 refine af ?_
    refine Kc (aa.add rfl rfl rfl (aH ?_)) ?_
    ·omega
    iterate 2 refine af ?_
    refine⟨i+1,?_,?_,?_⟩
    ·exact hk0
    ·omega
    have eW:(jq (ps.take (i+1)))=(jq (ps.take i))++[(Lib.itoa (Di.gt (.str []) ps i).nV)]:=by rw[zl hk0];(conv=>lhs;rw[Qw gW]);rfl
    have VT:((jq (ps.take (i+1)))).length=((jq (ps.take i))).length+1:=by rw[eW,Zb];rfl
    have eL:((jq (ps.take (i+1)))).flatMap iF=((jq (ps.take i))).flatMap iF++iF (Lib.itoa (Di.gt (.str []) ps i).nV):=by rw[eW,FQ];simp
    exact OQ
   ·iterate 2 refine af ?_
    refine Kc (aa.Y3 rfl rfl Ec (aab _)) ?_
    iterate 3 refine af ?_
    refine Ki (fun mc=> ?_) fun mc=> ?_
    ·obtain⟨l,el⟩:=W8 mc
     rw[show(Di.gt (.str []) ps i).lV=Di.bI l by rw[el];rfl]
     have hlo:l.length<=100∧∀ k∈l,0<=k∧k<10000000000000:=by rw[el] at Yz;exact Yz
     iterate 11 refine af ?_
     refine aB.cR [2,5,6,7,8,11,12,13,14,15,16,17,18,19,20,21,22,23,24,25,26,27,28,29,30,31,32,33,34,35,36,37,48,49,50] (fun g=>[(38,.p (.int .i64 ((g:Nat):Int))),(3,kJ 0 (jq (ps.take i)++(l.take g).map Lib.itoa).length)]) (fun g=>[dN ((((jq (ps.take i)++(l.take g).map Lib.itoa)).flatMap iF).map .p) 9 ((jq (ps.take i)++(l.take g).map Lib.itoa)).length]) (fun g=>g<=l.length) (fun g=>l.length - g) 0 (Zl _) (To.wg (To.sub (Sub.xx (Sub.cons rfl (Sub.cons (by rw[LN,zM,ZR];rfl) Sub.nil)))) (by rw[LN,zM,ZR])) (fun j hj=> ?_)
     iterate 5 refine af ?_
     refine Ki (fun zI=> ?_) fun zI=> ?_
     ·have VV:j<l.length:=by have h:=Zf zI;omega
      have hkj:=hlo.2 _ (Di.bq 0 VV)
      have hlt:(l.take j).length<=j:=List.length_take_le j l
      iterate 5 refine af ?_
      refine Kc (aa.aJ (g:=Di.gt 0 l) (k:=j) (Di.aC _) rfl rfl rfl an dA rfl (fun _=>rfl) (by decide) VV) ?_
      refine Kc (Kl (.p (.int .i64 (Di.gt 0 l j)))) ?_
      iterate 5 refine af ?_
      refine Kc (Kp (kZ (Di.gt 0 l j) (by omega) (by omega))) ?_
      refine Kc (aa.aU rfl an (by decide) rfl rfl rfl) ?_
      refine Kc (aa.kW rfl rfl rfl an an rfl ?_ rfl (by decide) rfl an (by decide) ?_) ?_
      ·exact F5
      ·(try simp only[Zb,Zq]);show(2*(_+1)+192)*16<=281474976710656;omega
      iterate 3 refine af ?_
      refine Kc (aa.add (m:=((j+1:Nat):Int)) rfl rfl rfl ((aH ?_).trans ?_)) ?_
      ·omega
      ·omega
      iterate 2 refine af ?_
      refine⟨j+1,?_,?_,?_⟩
      ·exact VV
      ·omega
      have eW:(jq (ps.take i)++(l.take (j+1)).map Lib.itoa)=(jq (ps.take i)++(l.take j).map Lib.itoa)++[(Lib.itoa (Di.gt 0 l j))]:=by rw[OY VV,Di.aC 0 j VV,ZH,<- ZL];rfl
      have VT:((jq (ps.take i)++(l.take (j+1)).map Lib.itoa)).length=((jq (ps.take i)++(l.take j).map Lib.itoa)).length+1:=by rw[eW,Zb];rfl
      have eL:((jq (ps.take i)++(l.take (j+1)).map Lib.itoa)).flatMap iF=((jq (ps.take i)++(l.take j).map Lib.itoa)).flatMap iF++iF (Lib.itoa (Di.gt 0 l j)):=by rw[eW,FQ];simp
      exact OQ
     ·have hj2:j=l.length:=by have h:=Zh zI;omega
      subst hj2
      refine aB.exit ?_
      refine af ?_
      refine Kc (aa.add rfl rfl rfl (aH ?_)) ?_
      ·omega
      iterate 2 refine af ?_
      refine⟨i+1,?_,?_,?_⟩
      ·exact hk0
      ·omega
      have eP:jq (ps.take (i+1))=jq (ps.take i)++(l.take l.length).map Lib.itoa:=by rw[zl hk0,el,ZQ];rfl
      rw[eP]
      exact To.sub KS
    ·exact(OE cF gW mc).elim
 ·have hi2:i=ps.length:=by have h:=Zh hc0;omega
  subst hi2
  refine aB.to (To.Wo 3 0 (jq (ps.take ps.length)).length (xs:=(jq (ps.take ps.length)).flatMap iF) rfl rfl (fun h=>by rw[Uc.1 h];rfl)) ?_
  rw[ZQ]
  refine aB.exit ?_
  iterate 3 refine af ?_
  refine Kc (Kp (nG (jq ps) 32 h0 (by omega) (by have:=I8 (c:=32) _ hwB;omega))) ?_
  exact Dt
def vS(ws:List Bs):List (List V):=ws.map fun w=>[.p (.int .i64 (gz w))]
theorem EG{ws:List Bs}{i:Nat}(h:i<ws.length):(vS ws)[i]? =some [V.p (.int .i64 (gz (Di.gt [] ws i)))]:=by
 unfold vS
 rw[Zu,Zd h,Di.aC [] i h];rfl
theorem vb(ws:List Bs):Pure Tryz.prog 55 [b9 ws] (.func (.func 111) [] [.ip [b9 ws] 0]):=by
 refine Kf (N:=4) Tryz.func55 ?_
 exact NR
theorem HY(ws:List Bs)(hl:ws.length<=1000000)(hw:∀ w∈ws,w.length<=1000000)(hC:∀ w∈ws,gS w):Li Tryz.prog 111 (fun y=>[y,.p (.ip [b9 ws] 0)]) (vS ws):=by
 intro l κ nn inv fin hκ Sl KX hb h0 ov
 refine iX.gR (N:=17) Tryz.func111 rfl rfl Kn ?_
 iterate 2 refine af ?_
 refine Kc (Kl (.p (b9 ws))) ?_
 iterate 4 refine af ?_
 refine aB.sG [4,7,8,9,10,11,12,13,14,15,16] (fun g=>[(7,.p (.int .i64 ((g.1:Nat):Int)))]) (fun g=>g.2) (fun g=>g.1<=ws.length∧inv g.1 g.2) (fun g=>ws.length - g.1) (0,h0) ⟨Zl _,ov⟩ (To.sub (Sub.Qk (Sub.cons rfl Sub.nil))) (fun g hg=> ?_)
 obtain⟨i,Lf⟩:=g
 obtain⟨hle,hinv⟩:=hg
 dsimp only at hle hinv ⊢
 iterate 5 refine af ?_
 refine Ki (fun hc0=> ?_) fun hc0=> ?_
 ·have hk0:i<ws.length:=by have h:=Zf hc0;omega
  have hm:=Di.bq [] hk0
  iterate 5 refine af ?_
  refine Kc (aa.aJ (g:=Di.gt [] ws) (k:=i) (Di.aC _) rfl rfl rfl an kr rfl (fun _=>rfl) (by decide) hk0) ?_
  refine Kc (Kl (.p (.str (sB (Di.gt [] ws i))))) ?_
  iterate 6 refine af ?_
  refine Kc (Kp (AH (Di.gt [] ws i) (hw _ hm) (decide_eq_true (hC _ hm)))) ?_
  refine aj.yield 14 rfl rfl rfl rfl rfl rfl (hb _ _ _ hinv (EG hk0)) ?_
  intro b2 h2 BD
  iterate 2 refine af ?_
  refine Ki (fun cF=> ?_) fun cF=> ?_
  ·have iq:b2=false:=by simpa using cF
   subst iq
   refine af ?_
   exact⟨.inr rfl,_,eK.none_ rfl,.inr (by rwa [if_neg (by decide)] at BD)⟩
  ·have iq:b2=true:=by simpa using cF
   subst iq
   iterate 2 refine af ?_
   refine Kc (aa.add (m:=((i+1:Nat):Int)) rfl rfl rfl ((aH ?_).trans ?_)) ?_
   ·omega
   ·omega
   iterate 2 refine af ?_
   refine⟨(i+1,h2),?_,?_,?_⟩
   ·exact⟨hk0,by rwa [if_pos rfl] at BD⟩
   ·exact J4
   exact To.sub KS
 ·have hi2:i=ws.length:=by have h:=Zh hc0;omega
  subst hi2
  refine aB.exit ?_
  exact⟨.inl rfl,_,eK.none_ rfl,.inl (by unfold vS;rw[Zq];exact hinv)⟩
theorem FA(ws:List Bs)(hl:ws.length<=1000000)(hw:∀ w∈ws,w.length<=1000000)(hC:¬ ∀ w∈ws,gS w):PA Tryz.prog 111 (fun y=>[y,.p (.ip [b9 ws] 0)]) (vS ws) (.iface 106 (.agg [.int .i64 8])):=by
 intro l κ nn inv hκ Sl hb h0 ov
 refine yJ.gR (N:=17) Tryz.func111 rfl rfl Kn ?_
 iterate 2 refine af ?_
 refine Kc (Kl (.p (b9 ws))) ?_
 iterate 4 refine af ?_
 refine aB.sG [4,7,8,9,10,11,12,13,14,15,16] (fun g=>[(7,.p (.int .i64 ((g.1:Nat):Int)))]) (fun g=>g.2) (fun g=>g.1<=ws.length∧inv g.1 g.2∧∀ j,j<g.1->gS (Di.gt [] ws j)) (fun g=>ws.length - g.1) (0,h0) ⟨Zl _,ov,fun j hj=>absurd hj (by omega)⟩ (To.sub (Sub.Qk (Sub.cons rfl Sub.nil))) (fun g hg=> ?_)
 obtain⟨i,Lf⟩:=g
 obtain⟨hle,hinv,hall⟩:=hg
 dsimp only at hle hinv hall ⊢
 iterate 5 refine af ?_
 refine Ki (fun hc0=> ?_) fun hc0=> ?_
 ·have hk0:i<ws.length:=by have h:=Zf hc0;omega
  have hm:=Di.bq [] hk0
  iterate 5 refine af ?_
  refine Kc (aa.aJ (g:=Di.gt [] ws) (k:=i) (Di.aC _) rfl rfl rfl an kr rfl (fun _=>rfl) (by decide) hk0) ?_
  refine Kc (Kl (.p (.str (sB (Di.gt [] ws i))))) ?_
  iterate 6 refine af ?_
  refine aj.cg 13 (b:=(decide (gS (Di.gt [] ws i)))) (AH (Di.gt [] ws i) (hw _ hm)) (H8 (Di.gt [] ws i) (hw _ hm)) rfl rfl rfl rfl rfl rfl rfl an (fun hf=> ?_) (fun hf=> ?_)
  ·exact⟨rfl,_,hinv⟩
  refine aj.yield 14 rfl rfl rfl rfl rfl rfl (hb _ _ _ hinv (EG hk0)) ?_
  intro b2 h2 BD
  iterate 2 refine af ?_
  refine Ki (fun cF=> ?_) fun cF=> ?_
  ·rw[BD.1] at cF
   cases cF
  ·iterate 2 refine af ?_
   refine Kc (aa.add (m:=((i+1:Nat):Int)) rfl rfl rfl ((aH ?_).trans ?_)) ?_
   ·omega
   ·omega
   iterate 2 refine af ?_
   refine⟨(i+1,h2),?_,?_,?_⟩
   ·exact⟨hk0,BD.2,fun j hj=>by rcases ZZ.1 hj with h | rfl;exact hall j h;exact Zf hf⟩
   ·exact J4
   exact To.sub KS
 ·have hi2:i=ws.length:=by have h:=Zh hc0;omega
  subst hi2
  exact(hC fun w hw=>by obtain⟨j,hj,rfl⟩:=Ni hw;rw[Di.aC [] j hj];exact hall j hj).elim
theorem Bl(ws:List Bs)(hl:ws.length<=1000000)(hw:∀ w∈ws,w.length<=1000000)(hC:∀ w∈ws,gS w):Pure Tryz.prog 110 [.nilSlice,(.func (.func 111) [] [.ip [b9 ws] 0])] (Di.bI (ws.map gz)):=by
 refine Kf (N:=13) Tryz.func110 ?_
 iterate 2 refine af ?_
 refine Kc (aa.iK rfl rfl rfl) ?_
 iterate 8 refine af ?_
 refine aB.to To.pad ?_
 refine aB.rangeFunc 0 rfl (fun _=>rfl) an (HY ws hl hw hC) (Zg _) (Zl _) (fun _ h=>by cases h) (fun x hx=>by unfold vS at hx;obtain⟨j,_,rfl⟩:=zn.1 hx;rfl) rfl (fun k h=>h=[.cells [kJ 1 k] 39,dN ((((ws.take k).map gz).flatMap Di.cE).map .p) 3 k]) (fun c h=>False) (fun _ _ h=>by rw[h];rfl) (fun _ _ h=>h.elim) rfl ?_ ?_ ?_
 ·exact XB
 ·intro h hJ
  subst hJ
  rw[show(vS ws).length=ws.length by unfold vS;rw[Zq],ZQ]
  refine af ?_
  refine aB.to (To.aaj 1 0 (xs:=(ws.map gz).flatMap Di.cE) (n:=ws.length) (a:=[]) (b:=[]) [(2,.ptr 0 0)] (by decide) rfl rfl (fun h=>by rw[Uc.1 h];rfl) rfl rfl KS KS) ?_
  iterate 5 refine af ?_
  refine Fin.gw rfl rfl ?_
  unfold Di.bI
  rw[Zq]
 ·exact o4
theorem Ay(ws:List Bs)(hl:ws.length<=1000000)(hw:∀ w∈ws,w.length<=1000000)(hC:¬ ∀ w∈ws,gS w):si Tryz.prog 110 [.nilSlice,(.func (.func 111) [] [.ip [b9 ws] 0])] (.iface 106 (.agg [.int .i64 8])):=by
 refine av.start (N:=13) Tryz.func110 rfl rfl Kn ?_
 iterate 2 refine af ?_
 refine Kc (aa.iK rfl rfl rfl) ?_
 iterate 8 refine af ?_
 refine aB.to To.pad ?_
 refine aB.Cm 0 rfl (fun _=>rfl) an (FA ws hl hw hC) (Zg _) (Zl _) (fun x hx=>by unfold vS at hx;obtain⟨j,_,rfl⟩:=zn.1 hx;rfl) rfl (fun k h=>h=[.cells [kJ 1 k] 39,dN ((((ws.take k).map gz).flatMap Di.cE).map .p) 3 k]) (fun _ _ h=>by rw[h];rfl) rfl ?_ ?_
 ·exact XB
 ·intro h
  exact⟨_,rfl,rfl⟩
theorem Fc(ws:List Bs)(hl:ws.length<=1000000)(hw:∀ w∈ws,w.length<=1000000)(hC:∀ w∈ws,gS w):Pure Tryz.prog 54 [(.func (.func 111) [] [.ip [b9 ws] 0])] (Di.bI (ws.map gz)):=by
 refine Kf (N:=5) Tryz.func54 ?_
 iterate 7 refine af ?_
 refine Kc (Kp (Bl ws hl hw hC)) ?_
 exact kL
theorem EP(ws:List Bs)(hl:ws.length<=1000000)(hw:∀ w∈ws,w.length<=1000000)(hC:¬ ∀ w∈ws,gS w):si Tryz.prog 54 [(.func (.func 111) [] [.ip [b9 ws] 0])] (.iface 106 (.agg [.int .i64 8])):=by
 refine av.start (N:=5) Tryz.func54 rfl rfl Kn ?_
 iterate 7 refine af ?_
 refine aj.uK 4 (Ay ws hl hw hC) rfl rfl rfl rfl rfl rfl rfl an ⟨_,rfl,rfl⟩
def FI(b:bG):List PV:=kn b++[Di.bI b.b6]
def dn(i1 i2 i3 i4 i5:Nat)(b:bG):List V:=[aV i1 b.au.length,aV i2 b.ag.length,aV i3 b.aq.length,aV i4 b.plan.length,.p (.int .i64 (b.bad:Int)),.p (.int .i64 (b.good:Int)),aV i5 b.b6.length]
def c5(l:List Ck.Sk):ai:=dN ((l.flatMap Ck.Sk.cells).map .p) 126 l.length
def cU(l:List Rx.bM):ai:=dN ((l.flatMap Rx.bM.cells).map .p) 128 l.length
def c7(l:List Di.cO):ai:=dN ((l.flatMap Di.cO.cells).map .p) 81 l.length
def bh(l:List Int):ai:=dN ((l.flatMap Di.cE).map .p) 3 l.length
theorem xj(l:List Int)(hl:l.length<=1000000):ax Tryz.prog 80 [.p (Di.bI l)] [] fun v H2=>v=aV 0 l.length∧H2=[dN ((l.flatMap Di.cE).map .p) 3 l.length]:=by
 refine ax.start (N:=8) Tryz.func80 rfl rfl Kn ?_
 iterate 8 refine af ?_
 refine aj.yu 4 rfl rfl rfl an rfl rfl rfl (fun b hb0=> ?_)
 refine af ?_
 refine Ki (fun hc0=> ?_) fun hc0=> ?_
 ·have h0:l.length=0:=hb0 hc0
  iterate 3 refine af ?_
  refine aj.to (To.z0 2 rfl) ?_
  refine aj.to To.pad ?_
  iterate 2 refine af ?_
  have hq:V.z0=aV 0 l.length∧([.dead]:List ai)=[dN ((l.flatMap Di.cE).map .p) 3 l.length]:=⟨(nK h0).symm,by rw[nI h0]⟩
  exact Gd
 ·iterate 3 refine af ?_
  refine Kc (aa.th rfl an) ?_
  refine af ?_
  refine Kc (aa.pO rfl rfl rfl an an (pz (xs:=(l.flatMap Di.cE)) (n:=l.length) (sz:=1) (AF.ct (c:=1) (fun _=>rfl) l)) (Jb Di.cE l (fun _=>rfl)) an (by decide) ?_) ?_
  ·show(2*l.length+192)*8<=281474976710656;omega
  exact D9
theorem E4(l:List Ck.Sk)(hl:l.length<=1000000):ax Tryz.prog 87 [.p (Ck.dS l)] [] fun v H2=>v=aV 0 l.length∧H2=[dN ((l.flatMap Ck.Sk.cells).map .p) 126 l.length]:=by
 refine ax.start (N:=8) Tryz.func87 rfl rfl Kn ?_
 iterate 8 refine af ?_
 refine aj.yu 4 rfl rfl rfl an rfl rfl rfl (fun b hb0=> ?_)
 refine af ?_
 refine Ki (fun hc0=> ?_) fun hc0=> ?_
 ·have h0:l.length=0:=hb0 hc0
  iterate 3 refine af ?_
  refine aj.to (To.z0 2 rfl) ?_
  refine aj.to To.pad ?_
  iterate 2 refine af ?_
  have hq:V.z0=aV 0 l.length∧([.dead]:List ai)=[dN ((l.flatMap Ck.Sk.cells).map .p) 126 l.length]:=⟨(nK h0).symm,by rw[nI h0]⟩
  exact Gd
 ·iterate 3 refine af ?_
  refine Kc (aa.th rfl an) ?_
  refine af ?_
  refine Kc (aa.pO rfl rfl rfl an an (pz (xs:=(l.flatMap Ck.Sk.cells)) (n:=l.length) (sz:=6) (AF.ct (c:=6) (fun _=>rfl) l)) (Jb Ck.Sk.cells l (fun _=>rfl)) an (by decide) ?_) ?_
  ·show(2*l.length+192)*48<=281474976710656;omega
  exact D9
theorem Gs(l:List Di.cO)(hl:l.length<=1000000):ax Tryz.prog 88 [.p (Di.fJ l)] [] fun v H2=>v=aV 0 l.length∧H2=[dN ((l.flatMap Di.cO.cells).map .p) 81 l.length]:=by
 refine ax.start (N:=8) Tryz.func88 rfl rfl Kn ?_
 iterate 8 refine af ?_
 refine aj.yu 4 rfl rfl rfl an rfl rfl rfl (fun b hb0=> ?_)
 refine af ?_
 refine Ki (fun hc0=> ?_) fun hc0=> ?_
 ·have h0:l.length=0:=hb0 hc0
  iterate 3 refine af ?_
  refine aj.to (To.z0 2 rfl) ?_
  refine aj.to To.pad ?_
  iterate 2 refine af ?_
  have hq:V.z0=aV 0 l.length∧([.dead]:List ai)=[dN ((l.flatMap Di.cO.cells).map .p) 81 l.length]:=⟨(nK h0).symm,by rw[nI h0]⟩
  exact Gd
 ·iterate 3 refine af ?_
  refine Kc (aa.th rfl an) ?_
  refine af ?_
  refine Kc (aa.pO rfl rfl rfl an an (pz (xs:=(l.flatMap Di.cO.cells)) (n:=l.length) (sz:=3) (AF.ct (c:=3) (fun _=>rfl) l)) (Jb Di.cO.cells l (fun _=>rfl)) an (by decide) ?_) ?_
  ·show(2*l.length+192)*24<=281474976710656;omega
  exact D9
theorem xl{i n:Nat}{l:List V}:jF (aV i n::l)=none:=by cases n <;> rfl
theorem wo(i1 i2 i3 i4 i5:Nat)(b:bG):fP (dn i1 i2 i3 i4 i5 b)= .agg (dn i1 i2 i3 i4 i5 b):=by
 unfold fP dn
 rw[xl]
theorem pE(i1 i2 i3 i4 i5:Nat)(b:bG):(dn i1 i2 i3 i4 i5 b).all jb=true:=by simp only[dn,Rv,List.all_nil,BE,Bool.true_and,Bool.and_true];rfl
theorem ax.kill{f:FuncId}{args:List V}{H:List ai}{v0:V}{H0:List ai}(i:Nat)(h:ax Tryz.prog f args H fun v H2=>v=v0∧H2=H0):ax Tryz.prog f args H fun v H2=>v=v0∧H2=H0.set i .dead:=
 fun w I ρ us hi gv=>(h w I ρ us hi gv).mono fun e w' ⟨u,v,J,σ,H2,h1,⟨h2,h3⟩,h4,h5,h6⟩=>⟨u,v,J,σ,H0.set i .dead,h1,⟨h2,rfl⟩,h4,by rw[<- h3];exact h5.kill i,h6⟩
theorem Cp(b:bG)(h1:b.au.length<=1000)(h2:b.ag.length<=1000)(h3:b.aq.length<=1000)(h4:b.plan.length<=1000)(h5:b.b6.length<=1000):ax Tryz.prog 49 [.p (.agg (FI b))] [] fun v H2=>v= .agg (dn 3 2 4 5 6 b)∧H2=[.cells (dn 3 2 4 5 6 b) 59,.cells (dn 3 2 4 5 6 b) 59,cU b.ag,c5 b.au,c7 b.aq,bh b.plan,bh b.b6]:=by
 refine ax.start (N:=42) Tryz.func49 rfl rfl Kn ?_
 iterate 7 refine af ?_
 refine Kc (Kl (.p (.agg (FI b)))) ?_
 iterate 7 refine af ?_
 refine Kc (Kl (.p (Rx.fO b.ag))) ?_
 refine af ?_
 refine Kc (aa.VZ rfl rfl rfl an an (by decide) ?_) ?_
 ·show 16*b.ag.length<=281474976710656;omega
 iterate 2 refine af ?_
 refine Kz (aa.vi (H':=[.cells [.p .nilSlice,.p .nilSlice,.p .nilSlice,.p .nilSlice,.p (.int .i64 0),.p (.int .i64 0),.p .nilSlice] 59,.cells [.p (Ck.dS b.au),aV 2 b.ag.length,.p (Di.fJ b.aq),.p (Di.bI b.plan),.p (.int .i64 (b.bad:Int)),.p (.int .i64 (b.good:Int)),.p (Di.bI b.b6)] 59,dN ((List.replicate b.ag.length [.int .i64 0,.int .i64 0]).flatten.map .p) 128 b.ag.length]) rfl rfl rfl an rfl) ?_
 iterate 5 refine af ?_
 refine Kc (Kl (aV 2 b.ag.length)) ?_
 iterate 2 refine af ?_
 refine Kc (Kl (.p (Rx.fO b.ag))) ?_
 refine Kc (aa.WW (zs:=(List.replicate b.ag.length [.int .i64 0,.int .i64 0]).flatten) (xs:=(b.ag.flatMap Rx.bM.cells)) rfl rfl rfl an rfl (AF.ct (c:=2) (fun _=>rfl) b.ag) (by rw[AF.ct (c:=2) (fun _=>rfl)];simp) (Jb Rx.bM.cells b.ag (fun _=>rfl)) (pz (xs:=(b.ag.flatMap Rx.bM.cells)) (n:=b.ag.length) (sz:=2) (AF.ct (c:=2) (fun _=>rfl) b.ag))) ?_
 iterate 2 refine af ?_
 refine aB.bU 10 2 [3,4] [([],false),([],false),([],false),([3],true),([],false),([],false),([],false),([4],true),([],false),([],false)] mixed (by kernel_rfl) (by decide) (by kernel_rfl) rfl (by simp[bL,bF,b8,dQ,gL,fq,bA,cP,c5,cU,c7,bh,dn]) ?_
 iterate 2 refine af ?_
 refine bu.cons 21 rfl rfl rfl (fun _=>(Kl (.p (Ck.dS b.au)))) rfl ?_
 refine bu.lay (blk:=(c5 b.au)) (v:=aV 3 b.au.length) (v0:=aV 5 b.au.length) 22 3 rfl rfl rfl rfl rfl rfl rfl rfl (fun _=>(aa.Ef (args:=[Ck.dS b.au]) 1 5 (E4 b.au (by omega)) rfl (eB (f:=Ck.Sk.cells) (fun _=>rfl) _) rfl rfl rfl rfl rfl an)) (cz rfl) (cz rfl) bA ?_
 iterate 2 refine af ?_
 refine bu.cons 25 rfl rfl rfl (fun _=>(Kl (.p (Di.fJ b.aq)))) rfl ?_
 refine bu.lay (blk:=(c7 b.aq)) (v:=aV 4 b.aq.length) (v0:=aV 5 b.aq.length) 26 4 rfl rfl rfl rfl rfl rfl rfl rfl (fun _=>(aa.Ef (args:=[Di.fJ b.aq]) 1 5 (Gs b.aq (by omega)) rfl (eB (f:=Di.cO.cells) (fun _=>rfl) _) rfl rfl rfl rfl rfl an)) (cz rfl) (cz rfl) bA ?_
 iterate 2 refine af ?_
 refine bu.nil ?_
 refine Kz (aa.vi (H':=[.cells [.p .nilSlice,.p .nilSlice,.p .nilSlice,.p .nilSlice,.p (.int .i64 0),.p (.int .i64 0),.p .nilSlice] 59,.cells [aV 3 b.au.length,aV 2 b.ag.length,.p (Di.fJ b.aq),.p (Di.bI b.plan),.p (.int .i64 (b.bad:Int)),.p (.int .i64 (b.good:Int)),.p (Di.bI b.b6)] 59,cU b.ag,c5 b.au,c7 b.aq]) rfl rfl rfl an rfl) ?_
 iterate 2 refine af ?_
 refine Kz (aa.vi (H':=[.cells [.p .nilSlice,.p .nilSlice,.p .nilSlice,.p .nilSlice,.p (.int .i64 0),.p (.int .i64 0),.p .nilSlice] 59,.cells [aV 3 b.au.length,aV 2 b.ag.length,aV 4 b.aq.length,.p (Di.bI b.plan),.p (.int .i64 (b.bad:Int)),.p (.int .i64 (b.good:Int)),.p (Di.bI b.b6)] 59,cU b.ag,c5 b.au,c7 b.aq]) rfl rfl rfl an rfl) ?_
 iterate 2 refine af ?_
 refine aB.bU 9 2 [5,6] [([],false),([],false),([],false),([5],true),([],false),([],false),([6],true),([],false),([],false)] mixed (by kernel_rfl) (by decide) (by kernel_rfl) rfl (by simp[bL,bF,b8,dQ,gL,fq,bA,cP,c5,cU,c7,bh,dn]) ?_
 iterate 2 refine af ?_
 refine bu.cons 33 rfl rfl rfl (fun _=>(Kl (.p (Di.bI b.plan)))) rfl ?_
 refine bu.lay (blk:=(bh b.plan)) (v:=aV 5 b.plan.length) (v0:=aV 7 b.plan.length) 34 5 rfl rfl rfl rfl rfl rfl rfl rfl (fun _=>(aa.Ef (args:=[Di.bI b.plan]) 1 7 (xj b.plan (by omega)) rfl (eB (f:=Di.cE) (fun _=>rfl) _) rfl rfl rfl rfl rfl an)) (cz rfl) (cz rfl) bA ?_
 refine af ?_
 refine bu.cons 36 rfl rfl rfl (fun _=>(Kl (.p (Di.bI b.b6)))) rfl ?_
 refine bu.lay (blk:=(bh b.b6)) (v:=aV 6 b.b6.length) (v0:=aV 7 b.b6.length) 37 6 rfl rfl rfl rfl rfl rfl rfl rfl (fun _=>(aa.Ef (args:=[Di.bI b.b6]) 1 7 (xj b.b6 (by omega)) rfl (eB (f:=Di.cE) (fun _=>rfl) _) rfl rfl rfl rfl rfl an)) (cz rfl) (cz rfl) bA ?_
 iterate 2 refine af ?_
 refine bu.nil ?_
 refine Kz (aa.vi (H':=[.cells [.p .nilSlice,.p .nilSlice,.p .nilSlice,.p .nilSlice,.p (.int .i64 0),.p (.int .i64 0),.p .nilSlice] 59,.cells [aV 3 b.au.length,aV 2 b.ag.length,aV 4 b.aq.length,aV 5 b.plan.length,.p (.int .i64 (b.bad:Int)),.p (.int .i64 (b.good:Int)),.p (Di.bI b.b6)] 59,cU b.ag,c5 b.au,c7 b.aq,bh b.plan,bh b.b6]) rfl rfl rfl an rfl) ?_
 refine af ?_
 refine Kz (aa.vi (H':=[.cells [.p .nilSlice,.p .nilSlice,.p .nilSlice,.p .nilSlice,.p (.int .i64 0),.p (.int .i64 0),.p .nilSlice] 59,.cells (dn 3 2 4 5 6 b) 59,cU b.ag,c5 b.au,c7 b.aq,bh b.plan,bh b.b6]) rfl rfl rfl an rfl) ?_
 iterate 3 refine af ?_
 refine Kc (aa.load (v:= .agg (dn 3 2 4 5 6 b)) rfl rfl an (show cW _ _ _ _=_ from congrArg some (wo 3 2 4 5 6 b))) ?_
 refine Kz (aa.store (H':=[.cells (dn 3 2 4 5 6 b) 59,.cells (dn 3 2 4 5 6 b) 59,cU b.ag,c5 b.au,c7 b.aq,bh b.plan,bh b.b6]) rfl rfl rfl rfl (pE 3 2 4 5 6 b) an rfl rfl) ?_
 iterate 2 refine af ?_
 exact kC.one rfl ⟨_,_,_,rfl,an,(show cW _ _ _ _=_ from congrArg some (wo 3 2 4 5 6 b))⟩ ⟨rfl,rfl⟩
theorem FE(b:bG)(h1:b.au.length<=1000)(h2:b.ag.length<=1000)(h3:b.aq.length<=1000)(h4:b.plan.length<=1000)(h5:b.b6.length<=1000):ax Tryz.prog 49 ([.agg (FI b)].map .p) [] fun v H2=>v= .agg (dn 3 2 4 5 6 b)∧H2=[.dead,.dead,cU b.ag,c5 b.au,c7 b.aq,bh b.plan,bh b.b6]:=
 ax.kill 1 (ax.kill 0 (Cp b h1 h2 h3 h4 h5))
def cv(b:bG)(p:Di.bB)(um:V)(i1 i2 i3 i4 i5:Nat):ai:= .cells (dn i1 i2 i3 i4 i5 b++p.cells.map .p++[um,.p (.bool true)]) 63
def mX(b:bG)(p:Di.bB)(um:V):List ai:=[cv b p um 1 2 3 4 5,c5 b.au,cU b.ag,c7 b.aq,bh b.plan,bh b.b6]
theorem Ky(l:List Rx.bM)(x:Rx.bM):ai.row ((l.flatMap Rx.bM.cells).map .p++x.cells.map .p) 128=cU (l++[x]):=by
 unfold cU
 exact Jm
theorem LA(l:List Ck.Sk)(x:Ck.Sk):ai.row ((l.flatMap Ck.Sk.cells).map .p++x.cells.map .p) 126=c5 (l++[x]):=by
 unfold c5
 exact Jm
theorem Ir(l:List Di.cO)(x:Di.cO):ai.row ((l.flatMap Di.cO.cells).map .p++x.cells.map .p) 81=c7 (l++[x]):=by
 unfold c7
 exact Jm
theorem zQ(l:List Int)(x:Int):ai.row ((l.flatMap Di.cE).map .p++(Di.cE x).map .p) 3=bh (l++[x]):=by
 unfold bh
 exact Jm
theorem kU{α:Type}(i:Nat)(l:List α)(x:α):V.row i (l.length+1)=aV i (l++[x]).length:=by
 rw[Zb];rfl
def Y1(b:bG)(p:Di.bB)(um:V)(H:List ai):Prop:=∃ i1 i2 i3 i4 i5:Nat,[0,i1,i2,i3,i4,i5].Nodup∧H[0]? =some (cv b p um i1 i2 i3 i4 i5)∧H[i1]? =some (c5 b.au)∧H[i2]? =some (cU b.ag)∧H[i3]? =some (c7 b.aq)∧H[i4]? =some (bh b.plan)∧H[i5]? =some (bh b.b6)
def AQ(b:bG)(p:Di.bB)(um:V)(H:List ai):Prop:=6<=H.length∧∀(j:Nat) (y:ai),0<j->j<6->H[j]? =some y->y= .dead∨(mX b p um)[j]? =some y
def Tw(b:bG)(p:Di.bB)(um:V)(H:List ai):Prop:=(∃ cs:List V,cs.length=7∧H[0]? =some (.cells (cs++p.cells.map .p++[um,.p (.bool true)]) 63))∧AQ b p um H
theorem T6(b:bG)(p:Di.bB)(um:V):Y1 b p um (mX b p um):=⟨1,2,3,4,5,by decide,rfl,rfl,rfl,rfl,rfl,rfl⟩
theorem AM(b:bG)(p:Di.bB)(um:V):AQ b p um (mX b p um):=⟨Zg _,fun j y _ _ h=> .inr h⟩
theorem fy(b:bG)(p:Di.bB)(um:V):Tw b p um (mX b p um):=⟨⟨_,rfl,rfl⟩,AM b p um⟩
theorem Ug(b:bG)(p:Di.bB)(a:Option Addr)(m c:Nat):UE Tryz.prog (mX b p (.raw a m c)):=vz (by
 intro blk h
 simp only[mX,Zt,KZ,or_false] at h
 rcases h with rfl | rfl | rfl | rfl | rfl | rfl
 ·simp[cv,mX,dn,bL,bF,b8,dQ,gL,Lu,Di.bB.cells]
 ·exact bA
 ·exact bA
 ·exact bA
 ·exact bA
 ·exact bA)
theorem Hz{H:List ai}{b:bG}{p:Di.bB}{um:V}{i1 i2 i3 i4 i5 k:Nat}{v:V}(h0:H[0]? =some (cv b p um i1 i2 i3 i4 i5))(hv:(dn i1 i2 i3 i4 i5 b++p.cells.map .p++[um,.p (.bool true)])[k]? =some v):cW H false 1 (.ptr 0 k)=some v:=by
 simp only[cW,h0]
 exact hv
theorem VG{H:List ai}{b:bG}{p:Di.bB}{um v:V}{i1 i2 i3 i4 i5 k:Nat}{cs:List V}(h0:H[0]? =some (cv b p um i1 i2 i3 i4 i5))(hk:k+1<=13)(hc:setAt (dn i1 i2 i3 i4 i5 b++p.cells.map .p++[um,.p (.bool true)]) k [v]=cs):gy H 0 k [v]=some (H.set 0 (.cells cs 63)):=by
 subst hc
 simp only[gy,h0]
 exact if_pos hk
theorem Lb(b:bG)(p:Di.bB)(um:V)(i1 i2 i3 i4 i5:Nat)(H:List ai)(h0:H[0]? =some (cv b p um i1 i2 i3 i4 i5)):av Tryz.prog 152 [.ptr 0 0] H (fun v H2=>b.ag.length<24∧v= .p (.tuple [])∧H2=H) (fun y H2=>¬ b.ag.length<24∧y=(.iface 106 (.agg [.int .i64 9]))∧H2=H):=by
 refine av.start (N:=11) Tryz.func152 rfl rfl Kn ?_
 iterate 6 refine af ?_
 refine Kc (aa.load (v:=aV i2 b.ag.length) rfl rfl an (Hz h0 rfl)) ?_
 refine Kc (aa.aQ rfl rfl an o9) ?_
 refine af ?_
 refine aj.cg 10 (b:=_) (dh _ 9) (de _ 9) rfl rfl rfl rfl rfl rfl rfl an (fun hb=> ?_) (fun hb=> ?_)
 ·exact⟨_,rfl,fun h=>Zh hb (by omega),rfl,rfl⟩
 refine af ?_
 have iq:=Zf hb
 exact⟨.inl rfl,_,eK.none_ rfl,by omega,rfl,rfl⟩
theorem Wu(b:bG)(p:Di.bB)(um:V)(i1 i2 i3 i4 i5:Nat)(H:List ai)(h0:H[0]? =some (cv b p um i1 i2 i3 i4 i5))(n:Int):ax Tryz.prog 156 [.ptr 0 0,.p (.int .i64 n)] H (fun v H2=>v= .p (.bool (decide (n<(b.ag.length:Int))))∧H2=H):=by
 refine ax.start (N:=14) Tryz.func156 rfl rfl Kn ?_
 iterate 12 refine af ?_
 refine Kc (aa.load (v:=aV i2 b.ag.length) rfl rfl an (Hz h0 rfl)) ?_
 refine Kc (aa.aQ rfl rfl an o9) ?_
 iterate 4 refine af ?_
 exact kC.one rfl rfl ⟨rfl,rfl⟩
theorem Ia(b:bG)(p:Di.bB)(um:V)(i1 i2 i3 i4 i5:Nat)(H:List ai)(h0:H[0]? =some (cv b p um i1 i2 i3 i4 i5))(h2:H[i2]? =some (cU b.ag))(hi:i2≠0)(x y:Int):av Tryz.prog 92 [.ptr 0 0,.p (.int .i64 x),.p (.int .i64 y)] H (fun v H2=>b.ag.length<24∧v= .p (.int .i64 (b.ag.length:Int))∧H2=(H.set i2 .dead++[cU (b.dZ ⟨x,y⟩).ag]).set 0 (cv (b.dZ ⟨x,y⟩) p um i1 H.length i3 i4 i5)) (fun q H2=>¬ b.ag.length<24∧q=(.iface 106 (.agg [.int .i64 9]))∧H2=H):=by
 refine av.start (N:=33) Tryz.func92 rfl rfl Kn ?_
 have h0L:0<H.length:=(Za.1 h0).1
 have h0s:(H.set i2 .dead++[ai.row ((b.ag.flatMap Rx.bM.cells).map .p++(Rx.bM.mk x y).cells.map .p) 128])[0]? =some (cv b p um i1 i2 i3 i4 i5):=by rw[Zc (by rw[wS];exact h0L),Zv,if_neg hi];exact h0
 iterate 7 refine af ?_
 refine aj.fe 8 (Lb b p um i1 i2 i3 i4 i5 H h0) rfl rfl rfl rfl rfl rfl rfl an (fun y H2 gJ=> ?_) (fun v H2 gJ=> ?_)
 ·obtain⟨q1,q2,q3⟩:=gJ
  exact⟨_,rfl,q1,q2,q3⟩
 obtain⟨hlt,rfl,hH⟩:=gJ
 have hH:=hH.symm
 subst hH
 iterate 9 refine af ?_
 refine Kc (aa.load (v:=aV i2 b.ag.length) rfl rfl an (Hz h0 rfl)) ?_
 iterate 3 refine af ?_
 refine Kc (aa.aU rfl an (by decide) rfl rfl rfl) ?_
 refine Kc (aa.pZ (i:=i2) (len:=b.ag.length) (cs:=(b.ag.flatMap Rx.bM.cells).map .p) (ys:=(Rx.bM.mk x y).cells.map .p) (n:=1) rfl rfl rfl an an h2 ?_ rfl (by decide) rfl an (by decide) ?_) ?_
 ·rw[Zq,AF.ct (c:=2) (fun _=>rfl)];rfl
 ·show(2*(b.ag.length+1)+192)*16<=281474976710656;omega
 iterate 4 refine af ?_
 refine Kz (aa.store rfl rfl rfl rfl rfl an rfl (VG h0s (by decide) rfl)) ?_
 iterate 8 refine af ?_
 refine Kc (aa.load (v:= .row H.length (b.ag.length+1)) rfl rfl an (by simp only[cW];rw[Zv,if_pos rfl,if_pos (by rw[Zb,wS];omega)];rfl)) ?_
 refine af ?_
 refine Kc (aa.iC (m:=(b.ag.length:Int)) rfl rfl rfl ((aH ?_).trans ?_)) ?_
 ·omega
 ·omega
 iterate 3 refine af ?_
 refine iB.one rfl rfl ⟨hlt,rfl,?_⟩
 rw[Ky]
 congr 1
 unfold cv dn
 have eA:aV H.length (b.dZ ⟨x,y⟩).ag.length= .row H.length (b.ag.length+1):=(kU H.length b.ag ⟨x,y⟩).symm
 rw[eA]
 rfl
theorem ym(b:bG)(p:Di.bB)(a:Option Addr)(m c:Nat):av Tryz.prog 152 [.ptr 0 0] (mX b p (.raw a m c)) (fun v H2=>b.ag.length<24∧v= .p (.tuple [])∧H2=mX b p (.raw a m c)) (fun y H2=>¬ b.ag.length<24∧y=(.iface 106 (.agg [.int .i64 9]))∧H2=mX b p (.raw a m c)):=Lb b p (.raw a m c) 1 2 3 4 5 (mX b p (.raw a m c)) rfl
theorem tf(b:bG)(p:Di.bB)(a:Option Addr)(m c:Nat)(n:Int):ax Tryz.prog 156 [.ptr 0 0,.p (.int .i64 n)] (mX b p (.raw a m c)) (fun v H2=>v= .p (.bool (decide (n<(b.ag.length:Int))))∧H2=mX b p (.raw a m c)):=Wu b p (.raw a m c) 1 2 3 4 5 (mX b p (.raw a m c)) rfl n
theorem ya(b:bG)(p:Di.bB)(a:Option Addr)(m c:Nat)(x y:Int):av Tryz.prog 92 [.ptr 0 0,.p (.int .i64 x),.p (.int .i64 y)] (mX b p (.raw a m c)) (fun v H2=>b.ag.length<24∧v= .p (.int .i64 (b.ag.length:Int))∧H2=[cv (b.dZ ⟨x,y⟩) p (.raw a m c) 1 6 3 4 5,c5 b.au,.dead,c7 b.aq,bh b.plan,bh b.b6,cU (b.dZ ⟨x,y⟩).ag]) (fun q H2=>¬ b.ag.length<24∧q=(.iface 106 (.agg [.int .i64 9]))∧H2=mX b p (.raw a m c)):=Ia b p (.raw a m c) 1 2 3 4 5 (mX b p (.raw a m c)) rfl rfl (by decide) x y
end Go.Proofs.YtchiinjiflgepaaGreatDoor
end
