/-
 Contracts of the library's shelf, laid at this program by the kit's tool.
 Chapter 15: what the library's texts do at this program: numbers as texts; texts that are cut, joined, looked at.
 The program of chapter 15: small functions; the batches of a set; a reply.
 The program of chapter 15: a number in a word; a reply.
 The program of chapter 15: the numbers in words.
 The program of chapter 15: books that are copied.
 The program of chapter 15: the floor; a card more.
-/
import Derived.Shelf.LaysM
import Derived.Shelf.Strconv.Itoa3
import Derived.Shelf.Bits.Mul64
import Derived.Shelf.Strings.Count
import Derived.Shelf.Strings.Search3
import Derived.Shelf.Strings.SplitCore
import Derived.Shelf.Strings.Prefix
import Derived.Shelf.Strings.OnBuilder
import Derived.Shelf.Small.Strs
import Derived.Shelf.Small.Wraps
import Derived.Shelf.Spec.TrailingZeros
import Derived.Shelf.Lays7
import Derived.Shelf.Strconv.Atoi
import Derived.Shelf.Strings.Fields
import Derived.Test.YtibffijhebobmaaGreatDoorProg
import Derived.Test.YtibffijhebobmaaGreatDoorMzTP
import Derived.Test.YtibffijhebobmaaGreatDoorMzTF
import Derived.Test.YtibffijhebobmaaGreatDoorFaTF
import Derived.Test.YtibffijhebobmaaGreatDoorMzTM
import Derived.Test.YtibffijhebobmaaGreatDoorMzTZ
theorem Eb{A:Prop}(h:A:=by
 intro l tmps k h x hJ hx
 subst hJ
 have hk:k<ws.length:=by have:=(Za.1 hx).1;unfold xl at this;rwa [Zp] at this
 obtain rfl:x=[.p (.int .i64 (gF ws[k]))]:=by unfold xl at hx;rw[Zu,Zc hk] at hx;simpa using hx.symm
 iterate 3 refine af ?_
 refine⟨rfl,rfl,?_⟩
 iterate 2 refine af ?_
 refine Kc (Kl (ke 1 k)) ?_
 refine af ?_
 refine Kc (aa.aS rfl an (by decide) rfl rfl rfl) ?_
 refine Kc (aa.jl rfl rfl rfl an an rfl ?_ rfl (by decide) rfl an (by decide) ?_) ?_
 ·rw[Zp,AF.cu (c:=1) (fun _=>rfl),Zp,ZU];show min _ _*1=_*1;omega
 ·omega
 iterate 2 refine af ?_
 refine⟨_,rfl,To.done [0,3,2] rfl Sub.nil ?_⟩
 show[ah.cells [V.row 1 (k+1)] 35,ah.row (bA _ (_++_)) _,_]=_
 rw[bF,aP,<- ZbE hk,ZA,IC,ZA]
 rfl):A:=h
theorem qx{A:Prop}(h:A:=by
 rw[Zb,IC,ZA]
 simp[dU]):A:=h
set_option linter.unusedSimpArgs false
set_option linter.unusedVariables false
section
namespace Go.Proofs
open Go.Shelf
def Tryz.zl:Go.Shelf.Ren:=⟨fun | 171=>14 | 243=>43 | 246=>111 | 283=>154 | 284=>155 | 285=>156 | 286=>157 | 129=>193 | 317=>192 | 318=>194 | 319=>195 | 320=>147 | 337=>188 | 338=>189 | n=>n,fun | 3=>3 | 9=>9 | 2=>2 | 4=>4 | 171=>223 | 0=>0 | 53=>224 | 37=>68 | 5=>5 | 173=>227 | 212=>269 | 51=>52 | 20=>20 | 213=>270 | 46=>175 | 232=>283 | 233=>284 | n=>n,fun | 17=>5 | 18=>6 | 19=>7 | n=>n⟩
theorem Tryz.LU:Go.Proofs.LaysM.n171 Tryz.prog Tryz.zl:={
 mixed:=by kernel_rfl
 f129:= Tryz.func193.trans (congrArg some (by kernel_rfl))
 f171:= Tryz.func14.trans (congrArg some (by kernel_rfl))
 f243:= Tryz.func43.trans (congrArg some (by kernel_rfl))
 f246:= Tryz.func111.trans (congrArg some (by kernel_rfl))
 f283:= Tryz.func154.trans (congrArg some (by kernel_rfl))
 f284:= Tryz.func155.trans (congrArg some (by kernel_rfl))
 f285:= Tryz.func156.trans (congrArg some (by kernel_rfl))
 f286:= Tryz.func157.trans (congrArg some (by kernel_rfl))
 f317:= Tryz.func192.trans (congrArg some (by kernel_rfl))
 f318:= Tryz.func194.trans (congrArg some (by kernel_rfl))
 f319:= Tryz.func195.trans (congrArg some (by kernel_rfl))
 f320:= Tryz.func147.trans (congrArg some (by kernel_rfl))
 f337:= Tryz.func188.trans (congrArg some (by kernel_rfl))
 f338:= Tryz.func189.trans (congrArg some (by kernel_rfl))
 t0:= Tryz.underlying0
 a0:= Tryz.isAgg0
 z0:= Tryz.sizeOf0
 v0:= Tryz.zeroValue0
 t2:= Tryz.underlying2
 a2:= Tryz.isAgg2
 z2:= Tryz.sizeOf2
 v2:= Tryz.zeroValue2
 t3:= Tryz.underlying3
 a3:= Tryz.isAgg3
 z3:= Tryz.sizeOf3
 v3:= Tryz.zeroValue3
 t4:= Tryz.underlying4
 a4:= Tryz.isAgg4
 z4:= Tryz.sizeOf4
 v4:= Tryz.zeroValue4
 t5:= Tryz.underlying5
 a5:= Tryz.isAgg5
 z5:= Tryz.sizeOf5
 v5:= Tryz.zeroValue5
 t9:= Tryz.underlying9
 a9:= Tryz.isAgg9
 z9:= Tryz.sizeOf9
 v9:= Tryz.zeroValue9
 t20:= Tryz.underlying20
 a20:= Tryz.isAgg20
 z20:= Tryz.sizeOf20
 v20:= Tryz.zeroValue20
 t37:= Tryz.underlying68
 a37:= Tryz.isAgg68
 z37:= Tryz.sizeOf68
 v37:= Tryz.zeroValue68
 t46:= Tryz.underlying175
 a46:= Tryz.isAgg175
 z46:= Tryz.sizeOf175
 v46:= Tryz.zeroValue175
 t51:= Tryz.underlying52
 a51:= Tryz.isAgg52
 z51:= Tryz.sizeOf52
 v51:= Tryz.zeroValue52
 t53:= Tryz.underlying224
 a53:= Tryz.isAgg224
 z53:= Tryz.sizeOf224
 v53:= Tryz.zeroValue224
 t171:= Tryz.underlying223
 a171:= Tryz.isAgg223
 z171:= Tryz.sizeOf223
 v171:= Tryz.zeroValue223
 t173:= Tryz.underlying227
 a173:= Tryz.isAgg227
 z173:= Tryz.sizeOf227
 v173:= Tryz.zeroValue227
 t212:= Tryz.underlying269
 a212:= Tryz.isAgg269
 z212:= Tryz.sizeOf269
 v212:= Tryz.zeroValue269
 t213:= Tryz.underlying270
 a213:= Tryz.isAgg270
 z213:= Tryz.sizeOf270
 t232:= Tryz.underlying283
 a232:= Tryz.isAgg283
 z232:= Tryz.sizeOf283
 v232:= Tryz.zeroValue283
 t233:= Tryz.underlying284
 a233:= Tryz.isAgg284
 z233:= Tryz.sizeOf284
 v233:= Tryz.zeroValue284
 g17:=by kernel_rfl
 g18:=by kernel_rfl
 g19:=by kernel_rfl
 i0:=by kernel_rfl
 i2:=by kernel_rfl
 i3:=by kernel_rfl
 i4:=by kernel_rfl
 i5:=by kernel_rfl
 i9:=by kernel_rfl
 i20:=by kernel_rfl
 i37:=by kernel_rfl
 i46:=by kernel_rfl
 i51:=by kernel_rfl
 i53:=by kernel_rfl
 i171:=by kernel_rfl
 i173:=by kernel_rfl
 i212:=by kernel_rfl
 i232:=by kernel_rfl
 i233:=by kernel_rfl
 m17:=by kernel_rfl
 m18:=by kernel_rfl
 m19:=by kernel_rfl}
def Tryz.tR:Go.Shelf.Ren:=⟨fun | 156=>134 | 165=>173 | 166=>79 | 169=>80 | 240=>135 | 241=>203 | 276=>174 | 277=>211 | n=>n,fun | 31=>27 | 9=>9 | 3=>3 | 4=>4 | 0=>0 | 20=>20 | 72=>148 | 76=>65 | 70=>146 | 37=>68 | 75=>64 | 127=>199 | 164=>256 | 5=>5 | 80=>154 | n=>n,fun | n=>n⟩
theorem Tryz.QV:Go.Proofs.Lays.n156 Tryz.prog Tryz.tR:={
 mixed:=by kernel_rfl
 f156:= Tryz.func134.trans (congrArg some (by kernel_rfl))
 f165:= Tryz.func173.trans (congrArg some (by kernel_rfl))
 f166:= Tryz.func79.trans (congrArg some (by kernel_rfl))
 f169:= Tryz.func80.trans (congrArg some (by kernel_rfl))
 f240:= Tryz.func135.trans (congrArg some (by kernel_rfl))
 f241:= Tryz.func203.trans (congrArg some (by kernel_rfl))
 f276:= Tryz.func174.trans (congrArg some (by kernel_rfl))
 f277:= Tryz.func211.trans (congrArg some (by kernel_rfl))
 t0:= Tryz.underlying0
 a0:= Tryz.isAgg0
 z0:= Tryz.sizeOf0
 v0:= Tryz.zeroValue0
 t3:= Tryz.underlying3
 a3:= Tryz.isAgg3
 z3:= Tryz.sizeOf3
 v3:= Tryz.zeroValue3
 t4:= Tryz.underlying4
 a4:= Tryz.isAgg4
 z4:= Tryz.sizeOf4
 v4:= Tryz.zeroValue4
 t9:= Tryz.underlying9
 a9:= Tryz.isAgg9
 z9:= Tryz.sizeOf9
 v9:= Tryz.zeroValue9
 t20:= Tryz.underlying20
 a20:= Tryz.isAgg20
 z20:= Tryz.sizeOf20
 v20:= Tryz.zeroValue20
 t31:= Tryz.underlying27
 a31:= Tryz.isAgg27
 z31:= Tryz.sizeOf27
 v31:= Tryz.zeroValue27
 t37:= Tryz.underlying68
 a37:= Tryz.isAgg68
 z37:= Tryz.sizeOf68
 v37:= Tryz.zeroValue68
 t70:= Tryz.underlying146
 a70:= Tryz.isAgg146
 z70:= Tryz.sizeOf146
 v70:= Tryz.zeroValue146
 t72:= Tryz.underlying148
 a72:= Tryz.isAgg148
 z72:= Tryz.sizeOf148
 v72:= Tryz.zeroValue148
 t75:= Tryz.underlying64
 a75:= Tryz.isAgg64
 z75:= Tryz.sizeOf64
 v75:= Tryz.zeroValue64
 t76:= Tryz.underlying65
 a76:= Tryz.isAgg65
 z76:= Tryz.sizeOf65
 v76:= Tryz.zeroValue65
 t127:= Tryz.underlying199
 a127:= Tryz.isAgg199
 z127:= Tryz.sizeOf199
 v127:= Tryz.zeroValue199
 t164:= Tryz.underlying256
 a164:= Tryz.isAgg256
 z164:= Tryz.sizeOf256
 v164:= Tryz.zeroValue256}
def Tryz.CO:Go.Shelf.Ren:=⟨fun | 221=>84 | 268=>137 | 138=>138 | 143=>47 | 195=>175 | 197=>176 | 218=>177 | 219=>112 | 260=>204 | 217=>158 | 225=>159 | 224=>160 | 267=>161 | 266=>196 | 314=>197 | n=>n,fun | 9=>9 | 3=>3 | 31=>27 | 4=>4 | 0=>0 | 105=>258 | 21=>21 | 5=>5 | 46=>175 | 119=>123 | 139=>291 | 138=>290 | 146=>271 | 51=>52 | n=>n,fun | 1=>2 | 3=>8 | 4=>9 | n=>n⟩
theorem Tryz.Rs:Go.Proofs.Lays.n221 Tryz.prog Tryz.CO:={
 mixed:=by kernel_rfl
 f138:= Tryz.func138.trans (congrArg some (by kernel_rfl))
 f143:= Tryz.func47.trans (congrArg some (by kernel_rfl))
 f195:= Tryz.func175.trans (congrArg some (by kernel_rfl))
 f197:= Tryz.func176.trans (congrArg some (by kernel_rfl))
 f217:= Tryz.func158.trans (congrArg some (by kernel_rfl))
 f218:= Tryz.func177.trans (congrArg some (by kernel_rfl))
 f219:= Tryz.func112.trans (congrArg some (by kernel_rfl))
 f221:= Tryz.func84.trans (congrArg some (by kernel_rfl))
 f224:= Tryz.func160.trans (congrArg some (by kernel_rfl))
 f225:= Tryz.func159.trans (congrArg some (by kernel_rfl))
 f260:= Tryz.func204.trans (congrArg some (by kernel_rfl))
 f266:= Tryz.func196.trans (congrArg some (by kernel_rfl))
 f267:= Tryz.func161.trans (congrArg some (by kernel_rfl))
 f268:= Tryz.func137.trans (congrArg some (by kernel_rfl))
 f314:= Tryz.func197.trans (congrArg some (by kernel_rfl))
 t0:= Tryz.underlying0
 a0:= Tryz.isAgg0
 z0:= Tryz.sizeOf0
 v0:= Tryz.zeroValue0
 t3:= Tryz.underlying3
 a3:= Tryz.isAgg3
 z3:= Tryz.sizeOf3
 v3:= Tryz.zeroValue3
 t4:= Tryz.underlying4
 a4:= Tryz.isAgg4
 z4:= Tryz.sizeOf4
 v4:= Tryz.zeroValue4
 t5:= Tryz.underlying5
 a5:= Tryz.isAgg5
 z5:= Tryz.sizeOf5
 v5:= Tryz.zeroValue5
 t9:= Tryz.underlying9
 a9:= Tryz.isAgg9
 z9:= Tryz.sizeOf9
 v9:= Tryz.zeroValue9
 t21:= Tryz.underlying21
 a21:= Tryz.isAgg21
 z21:= Tryz.sizeOf21
 v21:= Tryz.zeroValue21
 t31:= Tryz.underlying27
 a31:= Tryz.isAgg27
 z31:= Tryz.sizeOf27
 v31:= Tryz.zeroValue27
 t46:= Tryz.underlying175
 a46:= Tryz.isAgg175
 z46:= Tryz.sizeOf175
 v46:= Tryz.zeroValue175
 t51:= Tryz.underlying52
 a51:= Tryz.isAgg52
 z51:= Tryz.sizeOf52
 v51:= Tryz.zeroValue52
 t105:= Tryz.underlying258
 a105:= Tryz.isAgg258
 z105:= Tryz.sizeOf258
 v105:= Tryz.zeroValue258
 t119:= Tryz.underlying123
 a119:= Tryz.isAgg123
 z119:= Tryz.sizeOf123
 t138:= Tryz.underlying290
 a138:= Tryz.isAgg290
 z138:= Tryz.sizeOf290
 v138:= Tryz.zeroValue290
 t139:= Tryz.underlying291
 a139:= Tryz.isAgg291
 z139:= Tryz.sizeOf291
 v139:= Tryz.zeroValue291
 t146:= Tryz.underlying271
 a146:= Tryz.isAgg271
 z146:= Tryz.sizeOf271
 v146:= Tryz.zeroValue271
 g1:=by kernel_rfl
 g3:=by kernel_rfl
 g4:=by kernel_rfl}
def Tryz.B6:Go.Shelf.Ren:=⟨fun | 143=>47 | 219=>112 | 217=>158 | 225=>159 | 224=>160 | 267=>161 | 266=>196 | 314=>197 | n=>n,fun | 9=>9 | 3=>3 | 4=>4 | 5=>5 | 46=>175 | 146=>271 | 51=>52 | n=>n,fun | 1=>2 | n=>n⟩
theorem Tryz.PS:Go.Proofs.Lays.n143 Tryz.prog Tryz.B6:={
 mixed:=by kernel_rfl
 f143:= Tryz.func47.trans (congrArg some (by kernel_rfl))
 f217:= Tryz.func158.trans (congrArg some (by kernel_rfl))
 f219:= Tryz.func112.trans (congrArg some (by kernel_rfl))
 f224:= Tryz.func160.trans (congrArg some (by kernel_rfl))
 f225:= Tryz.func159.trans (congrArg some (by kernel_rfl))
 f266:= Tryz.func196.trans (congrArg some (by kernel_rfl))
 f267:= Tryz.func161.trans (congrArg some (by kernel_rfl))
 f314:= Tryz.func197.trans (congrArg some (by kernel_rfl))
 t3:= Tryz.underlying3
 a3:= Tryz.isAgg3
 z3:= Tryz.sizeOf3
 v3:= Tryz.zeroValue3
 t4:= Tryz.underlying4
 a4:= Tryz.isAgg4
 z4:= Tryz.sizeOf4
 v4:= Tryz.zeroValue4
 t5:= Tryz.underlying5
 a5:= Tryz.isAgg5
 z5:= Tryz.sizeOf5
 v5:= Tryz.zeroValue5
 t9:= Tryz.underlying9
 a9:= Tryz.isAgg9
 z9:= Tryz.sizeOf9
 v9:= Tryz.zeroValue9
 t46:= Tryz.underlying175
 a46:= Tryz.isAgg175
 z46:= Tryz.sizeOf175
 v46:= Tryz.zeroValue175
 t51:= Tryz.underlying52
 a51:= Tryz.isAgg52
 z51:= Tryz.sizeOf52
 v51:= Tryz.zeroValue52
 t146:= Tryz.underlying271
 a146:= Tryz.isAgg271
 z146:= Tryz.sizeOf271
 v146:= Tryz.zeroValue271
 g1:=by kernel_rfl}
def Tryz.BC:Go.Shelf.Ren:=⟨fun | 138=>138 | 195=>175 | 218=>177 | 143=>47 | 219=>112 | 217=>158 | 225=>159 | 224=>160 | 267=>161 | 266=>196 | 314=>197 | n=>n,fun | 9=>9 | 3=>3 | 4=>4 | 5=>5 | 0=>0 | 46=>175 | 146=>271 | 51=>52 | n=>n,fun | 1=>2 | n=>n⟩
theorem Tryz.Re:Go.Proofs.Lays.n138 Tryz.prog Tryz.BC:={
 mixed:=by kernel_rfl
 f138:= Tryz.func138.trans (congrArg some (by kernel_rfl))
 f143:= Tryz.func47.trans (congrArg some (by kernel_rfl))
 f195:= Tryz.func175.trans (congrArg some (by kernel_rfl))
 f217:= Tryz.func158.trans (congrArg some (by kernel_rfl))
 f218:= Tryz.func177.trans (congrArg some (by kernel_rfl))
 f219:= Tryz.func112.trans (congrArg some (by kernel_rfl))
 f224:= Tryz.func160.trans (congrArg some (by kernel_rfl))
 f225:= Tryz.func159.trans (congrArg some (by kernel_rfl))
 f266:= Tryz.func196.trans (congrArg some (by kernel_rfl))
 f267:= Tryz.func161.trans (congrArg some (by kernel_rfl))
 f314:= Tryz.func197.trans (congrArg some (by kernel_rfl))
 t0:= Tryz.underlying0
 a0:= Tryz.isAgg0
 z0:= Tryz.sizeOf0
 v0:= Tryz.zeroValue0
 t3:= Tryz.underlying3
 a3:= Tryz.isAgg3
 z3:= Tryz.sizeOf3
 v3:= Tryz.zeroValue3
 t4:= Tryz.underlying4
 a4:= Tryz.isAgg4
 z4:= Tryz.sizeOf4
 v4:= Tryz.zeroValue4
 t5:= Tryz.underlying5
 a5:= Tryz.isAgg5
 z5:= Tryz.sizeOf5
 v5:= Tryz.zeroValue5
 t9:= Tryz.underlying9
 a9:= Tryz.isAgg9
 z9:= Tryz.sizeOf9
 v9:= Tryz.zeroValue9
 t46:= Tryz.underlying175
 a46:= Tryz.isAgg175
 z46:= Tryz.sizeOf175
 v46:= Tryz.zeroValue175
 t51:= Tryz.underlying52
 a51:= Tryz.isAgg52
 z51:= Tryz.sizeOf52
 v51:= Tryz.zeroValue52
 t146:= Tryz.underlying271
 a146:= Tryz.isAgg271
 z146:= Tryz.sizeOf271
 v146:= Tryz.zeroValue271
 g1:=by kernel_rfl}
def Tryz.Co:Go.Shelf.Ren:=⟨fun | 137=>132 | 217=>158 | 266=>196 | n=>n,fun | 9=>9 | 5=>5 | 3=>3 | n=>n,fun | n=>n⟩
theorem Tryz.PK:Go.Proofs.Lays.n137 Tryz.prog Tryz.Co:={
 mixed:=by kernel_rfl
 f137:= Tryz.func132.trans (congrArg some (by kernel_rfl))
 f217:= Tryz.func158.trans (congrArg some (by kernel_rfl))
 f266:= Tryz.func196.trans (congrArg some (by kernel_rfl))
 t3:= Tryz.underlying3
 a3:= Tryz.isAgg3
 z3:= Tryz.sizeOf3
 v3:= Tryz.zeroValue3
 t5:= Tryz.underlying5
 a5:= Tryz.isAgg5
 z5:= Tryz.sizeOf5
 v5:= Tryz.zeroValue5
 t9:= Tryz.underlying9
 a9:= Tryz.isAgg9
 z9:= Tryz.sizeOf9
 v9:= Tryz.zeroValue9}
def Tryz.By:Go.Shelf.Ren:=⟨fun | 100=>75 | 207=>130 | n=>n,fun | 9=>9 | 4=>4 | 3=>3 | n=>n,fun | n=>n⟩
theorem Tryz.Rn:Go.Proofs.Lays.n100 Tryz.prog Tryz.By:={
 mixed:=by kernel_rfl
 f100:= Tryz.func75.trans (congrArg some (by kernel_rfl))
 f207:= Tryz.func130.trans (congrArg some (by kernel_rfl))
 t3:= Tryz.underlying3
 a3:= Tryz.isAgg3
 z3:= Tryz.sizeOf3
 v3:= Tryz.zeroValue3
 t4:= Tryz.underlying4
 a4:= Tryz.isAgg4
 z4:= Tryz.sizeOf4
 v4:= Tryz.zeroValue4
 t9:= Tryz.underlying9
 a9:= Tryz.isAgg9
 z9:= Tryz.sizeOf9
 v9:= Tryz.zeroValue9}
def Tryz.C5:Go.Shelf.Ren:=⟨fun | 102=>77 | 209=>133 | 207=>130 | n=>n,fun | 9=>9 | 4=>4 | 3=>3 | n=>n,fun | n=>n⟩
theorem Tryz.Qf:Go.Proofs.Lays.n102 Tryz.prog Tryz.C5:={
 mixed:=by kernel_rfl
 f102:= Tryz.func77.trans (congrArg some (by kernel_rfl))
 f207:= Tryz.func130.trans (congrArg some (by kernel_rfl))
 f209:= Tryz.func133.trans (congrArg some (by kernel_rfl))
 t3:= Tryz.underlying3
 a3:= Tryz.isAgg3
 z3:= Tryz.sizeOf3
 v3:= Tryz.zeroValue3
 t4:= Tryz.underlying4
 a4:= Tryz.isAgg4
 z4:= Tryz.sizeOf4
 v4:= Tryz.zeroValue4
 t9:= Tryz.underlying9
 a9:= Tryz.isAgg9
 z9:= Tryz.sizeOf9
 v9:= Tryz.zeroValue9}
end Go.Proofs
end
section
set_option maxRecDepth 100000
set_option maxHeartbeats 4000000
namespace Go.Proofs.YtibffijhebobmaaGreatDoor
open Go.AF
open Go.Proofs
theorem Og:(5,Lib.pow10Tab.map (PV.int .u64))∈o5 Tryz.prog:=by
 have e:(o5 Tryz.prog)[2]? =some (5,Lib.pow10Tab.map (PV.int .u64)):=by kernel_rfl
 exact Zg e
theorem O7:(7,DC.map (PV.int .u8))∈o5 Tryz.prog:=by
 have e:(o5 Tryz.prog)[1]? =some (7,DC.map (PV.int .u8)):=by kernel_rfl
 exact Zg e
theorem AS(n:Int)(h0:0<=n)(h1:n<10000000000000):Pure Tryz.prog 14 [.int .i64 n] (.str (sB (Lib.itoa n))):=
 Pure.AN (us:=[.int .i64 n]) (fun w I vs h=>by
  obtain⟨u,us,rfl,h2,h3⟩:=h
  have h2:u= .int .i64 n:=h2
  have h3:us=[]:=h3
  rw[h2,h3]) fun w I hg=>(Any.strconv_Itoa Tryz.LU n (by omega) (by omega) w (VM (g:=5) hg Og (by kernel_rfl))).mono fun e w' ⟨h1,k,os,h2⟩=>⟨_,h1,fun _ _=>rfl,k,os,h2⟩
theorem Eo{a b:ByteArray}:∀(w:World) (I:Nat->Prop) (vs:List Value),aW w I [.str a,.str b] vs->vs=[.string a,.string b]:=fun w I vs h=>by
 obtain⟨u0,vs0,rfl,k0,u1,VN,rfl,k1,k2⟩:=h
 have k0:u0= .string a:=k0
 have k1:u1= .string b:=k1
 have k2:VN=[]:=k2
 rw[k0,k1,k2]
theorem mh(s t:Bs)(hs:s.length<=9223372036854775807):Pure Tryz.prog 75 [.str (sB s),.str (sB t)] (.bool (t.isSuffixOf s)):=
 Pure.AN (us:=[.string (sB s),.string (sB t)]) Eo fun w I hg=>(Any.strings_HasSuffix Tryz.Rn (sB s) (sB t) w (by rw[gD];exact hs)).mono fun e w' ⟨h1,h2⟩=>⟨_,h1,fun _ _=>by show Value.bool _=_;rw[gz,gz];rfl,0,#[],by rw[h2,Go.Sort.grow_empty];rfl⟩
theorem xS(s t:Bs)(hs:s.length<=9223372036854775807):Pure Tryz.prog 77 [.str (sB s),.str (sB t)] (.str (sB (Lib.trimSuffix s t))):=
 Pure.AN (us:=[.string (sB s),.string (sB t)]) Eo fun w I hg=>(Any.strings_TrimSuffix Tryz.Qf (sB s) (sB t) w (by rw[gD];exact hs)).mono fun e w' ⟨h1,h2⟩=>⟨_,h1,fun _ _=>by show Value.string _=_;rw[gz,gz];rfl,0,#[],by rw[h2,Go.Sort.grow_empty];rfl⟩
theorem zA(s:Bs)(c:UInt8):Pure Tryz.prog 132 [.str (sB s),.int .u8 (c.toNat:Int)] (.int .i64 (Lib.indexByte s c)):=
 Pure.AN (us:=[.string (sB s),.int .u8 (c.toNat:Int)]) (fun w I vs h=>by
  obtain⟨u0,vs0,rfl,k0,u1,VN,rfl,k1,k2⟩:=h
  have k0:u0= .string (sB s):=k0
  have k1:u1= .int .u8 (c.toNat:Int):=k1
  have k2:VN=[]:=k2
  rw[k0,k1,k2]) fun w I hg=>(Any.strings_IndexByte Tryz.PK (sB s) (c.toNat:Int) w).mono fun e w' ⟨h1,h2⟩=>⟨_,h1,fun _ _=>by
   show Value.int _ _=_
   rw[gz,AD,show c.toNat.toUInt8=c from by simp],0,#[],by rw[h2,Go.Sort.grow_empty];rfl⟩
theorem zc(w:World)(I:Nat->Prop):∀ ss:List ByteArray,aW w I (ss.map PV.str) (ss.map Value.string)
 | []=>rfl
 | x::xs=>⟨_,_,rfl,rfl,zc w I xs⟩
theorem Pure.TO{f:FuncId}{us:List Value}{args:List PV}{ss:List ByteArray}{t:TypeId}(cE:∀ w I vs,aW w I args vs->vs=us)(h:∀(w:World) (I:Nat->Prop),OU Tryz.prog w I->Calls Tryz.prog f us.toArray w fun e w'=>e= .returned (.slice (some ⟨w.heap.size,0,none⟩) ss.length ss.length)∧w'=w.alloc (.cells (ss.map Value.string).toArray t)):Pure Tryz.prog f args (.is (ss.map PV.str) ss.length):=by
 intro w I ρ vs hi hvs
 have e:=cE w I vs (ag.pure.1 hvs)
 subst e
 refine CallsIn.mono ((callsIn_wide (n:=0)).2 (h w I hi.gl)) ?_
 rintro e w' ⟨rfl,rfl⟩
 refine⟨_,.p _,fun b=>I b∨b=w.heap.size,ρ,[],rfl,⟨rfl,rfl⟩,Ext.gR hi _,hi.gR _,?_⟩
 refine .inr ⟨w.heap.size,0,ss.length,fun _=> .inr rfl,Zf _,rfl,?_⟩
 refine aX.lZ (ss.map PV.str) (ss.map Value.string) 0 ?_ ?_
 ·exact zc _ _ ss
 ·intro j u hu
  have e:(w.alloc (.cells (ss.map Value.string).toArray t)).heap[w.heap.size]? =some (.cells (ss.map Value.string).toArray t):=Array.getElem?_push_size
  unfold World.cell?
  simp only[e,uf]
  simpa using hu
theorem EB{c:UInt8}(ws:List Bs)(h0:0<ws.length)(h:∀ x∈ws,Fc c x)(hs:(cQ c ws).length<=1000000):Pure Tryz.prog 84 [.str (sB (cQ c ws)),.str (sB [c]),.int .i64 0,.int .i64 (-1)] (.is ((ws.map sB).map PV.str) (ws.map sB).length):=by
 refine Pure.TO (us:=[.string (sB (cQ c ws)),.string (sB [c]),.int .i64 0,.int .i64 (-1)]) (t:=9) (fun w I vs h=>by
  obtain⟨u0,vs0,rfl,k0,u1,VN,rfl,k1,u2,vs2,rfl,k2,u3,vs3,rfl,k3,k4⟩:=h
  have k0:u0= .string (sB (cQ c ws)):=k0
  have k1:u1= .string (sB [c]):=k1
  have k2:u2= .int .i64 0:=k2
  have k3:u3= .int .i64 (-1):=k3
  have k4:vs3=[]:=k4
  rw[k0,k1,k2,k3,k4]) fun w I hg=> ?_
 have hsz:(sB (cQ c ws)).size<=1000000:=by rw[gD];exact hs
 have hL:=NR ws h0 h
 have hcn:=Oi ws h0 h
 have hle:=Dc (c:=c) ws
 have k:=Any.strings_genSplit_core Tryz.Rs (by kernel_rfl) (sB (cQ c ws)) (sB [c]) 0 (-1) ws.length w (by omega) (by show 1<=1;decide) (Zs _)
  (fun x cc hx=>(Any.strings_Index_one Tryz.PS x c _).mono fun e w' ⟨h1,h2⟩=>⟨by rw[h1];show _=Ending.returned (.int .i64 (Lib.index x.data.toList (sB [c]).data.toList));rw[gz,Lib.index_one],h2⟩)
  ((Any.strings_Count_one Tryz.Re (sB (cQ c ws)) c w).mono fun e w' ⟨h1,h2⟩=>⟨by rw[h1];show _=Ending.returned (.int .i64 ((Lib.count (sB (cQ c ws)).data.toList [c]:Nat):Int));rw[Lib.count_one];rfl,h2⟩) (by decide) (by decide)
  (by rw[if_pos (by decide),hcn,gD];push_cast;omega)
 refine k.mono fun e w' ⟨h1,h2⟩=> ?_
 rw[hL] at h1 h2
 refine⟨?_,?_⟩
 ·rw[h1];simp
 ·rw[h2,show ws.length=(ws.map sB).length by simp,Lib.cellsOf_full];rfl
theorem MX(ws:List Bs):PV.is ((ws.map sB).map PV.str) (ws.map sB).length=jV ws:=by
 unfold jV
 rw[Zp,Q1]
 congr 1
 induction ws with
 | nil=>rfl
 | cons x xs ih=>rw[Zz,ZH,ih];rfl
theorem aaH:Go.Proofs.Builder.Extra Tryz.prog Tryz.tR where
 sizeBuilder:=by kernel_rfl
 liesBuilder:=by kernel_rfl
 t5:= Tryz.underlying5
 a5:=run_isAgg_plain Tryz.underlying5 rfl
 z5:= Tryz.sizeOf5
 v5:= Tryz.zeroValue5
 infoByte:=by kernel_rfl
 cellsByte:=by kernel_rfl
 sizeByte:=by kernel_rfl
 neB5:=by decide
theorem wv{w:World}{I:Nat->Prop}:∀(ss:List ByteArray) (b o:Nat),aX w I (ss.map PV.str) b o->∀(j:Nat) x,ss[j]? =some x->w.cell? ⟨b,o+j,none⟩=some (.string x)
 | [],_,_,_,j,x,h=>by simp at h
 | y::ss,b,o,⟨⟨u,h1,h2⟩,h3⟩,j,x,h=>by
  cases j with
  | zero=>
   have h2:u= .string y:=h2
   simp at h
   rw[<- h,<- h2];exact h1
  | succ j=>
   have:=wv ss b (o+1) h3 j x (by simpa using h)
   rwa [show o+1+j=o+(j+1) by omega] at this
theorem ot(ws:List Bs)(c:UInt8)(h0:0<ws.length)(hl:ws.length<=1000000)(hs:(cQ c ws).length<=1000000):Pure Tryz.prog 134 [jV ws,.str (sB [c])] (.str (sB (cQ c ws))):=by
 rw[<- MX]
 intro w I ρ vs hi hvs
 obtain⟨u0,vs0,rfl,k0,u1,VN,rfl,k1,k2⟩:=ag.pure.1 hvs
 have k1:u1= .string (sB [c]):=k1
 have k2:VN=[]:=k2
 subst k1 k2
 have hlen:(ws.map sB).length=ws.length:=Zp ..
 rcases k0 with⟨_,h⟩ | ⟨b,o,cap,hI,hcap,rfl,eD⟩
 ·omega
 ·have hne:(ws.map sB).map PV.str≠[]:=by intro e;have:=congrArg List.length e;simp at this;rw[this] at h0;cases h0
  have hbI:=hI hne
  have hj:Lib.join ((ws.map sB).map (·.data.toList)) (sB [c]).data.toList=cQ c ws:=by
   rw[gz,Q1,show((fun x:ByteArray=>x.data.toList)∘sB)=id from funext gz,List.map_id,Ll]
  refine CallsIn.mono ((callsIn_wide (n:=0)).2 (Any.strings_Join Tryz.QV aaH b o cap (ws.map sB) (sB [c]) w (wv _ _ _ eD) (hi.ib _ hbI) (by omega) hcap (by rw[hj];omega))) ?_
  rintro e w' ⟨rfl,hb⟩
  obtain⟨h1,h2⟩:=Ext.below hi hb
  refine⟨_,.p _,I,ρ,[],rfl,⟨rfl,rfl⟩,h1,h2,?_⟩
  show Value.string _=_
  rw[hj]
  rfl
end Go.Proofs.YtibffijhebobmaaGreatDoor
end
section
set_option maxRecDepth 100000
set_option maxHeartbeats 4000000
namespace Go.Proofs.YtibffijhebobmaaGreatDoor
open Go.AF
theorem wh(e:Int):Pure Tryz.prog 40 [.bool true,.int .i64 e] (.tuple []):=by
 refine Kf (N:=9) Tryz.func40 ?_
 iterate 5 refine af ?_
 refine aF.tP rfl ?_
 refine af ?_
 exact⟨.inl rfl,en.none_ rfl⟩
theorem Qc(e:Int):tK Tryz.prog 40 [.bool false,.int .i64 e] (.iface 94 (.agg [.int .i64 e])):=by
 refine av.start (N:=9) Tryz.func40 rfl rfl Kn ?_
 iterate 5 refine af ?_
 refine aF.BW rfl ?_
 iterate 3 refine af ?_
 refine Kc (aa.aG rfl rfl RR) ?_
 refine aj.panic rfl rfl rfl ?_
 exact⟨_,rfl,rfl⟩
theorem dD(b:Bool)(e:Int)(hb:b=true):Pure Tryz.prog 40 [.bool b,.int .i64 e] (.tuple []):=by subst hb;exact wh e
theorem dG(b:Bool)(e:Int)(hb:b=false):tK Tryz.prog 40 [.bool b,.int .i64 e] (.iface 94 (.agg [.int .i64 e])):=by subst hb;exact Qc e
theorem j7(e:Int)(he:decide (e=0)=true):Pure Tryz.prog 95 [.int .i64 e] (.tuple []):=by
 refine Kf (N:=6) Tryz.func95 ?_
 iterate 4 refine af ?_
 refine aj.cy 5 (b:=(decide (e=0))) (dD (decide (e=0)) e) (dG (decide (e=0)) e) rfl rfl rfl rfl rfl rfl rfl an (fun hb=> ?_) (fun hb=> ?_)
 ·rw[he] at hb
  cases hb
 refine af ?_
 exact⟨.inl rfl,en.none_ rfl⟩
theorem oB(e:Int)(he:decide (e=0)=false):tK Tryz.prog 95 [.int .i64 e] (.iface 94 (.agg [.int .i64 e])):=by
 refine av.start (N:=6) Tryz.func95 rfl rfl Kn ?_
 iterate 4 refine af ?_
 refine aj.cy 5 (b:=(decide (e=0))) (dD (decide (e=0)) e) (dG (decide (e=0)) e) rfl rfl rfl rfl rfl rfl rfl an (fun hb=> ?_) (fun hb=> ?_)
 ·exact⟨_,rfl,rfl⟩
 rw[he] at hb
 cases hb
theorem QT(l:List Int)(k:Nat)(hk:k=l.length)(h2:2<=l.length):Pure Tryz.prog 140 [.is (l.flatMap Di.bY) k] (.agg [.int .i64 (nn l 0),.int .i64 (nn l 1)]):=by
 subst hk
 refine Kf (N:=10) Tryz.func140 ?_
 iterate 5 refine af ?_
 refine aF.aD 7 mixed (by kernel_rfl) (by decide) ?_
 refine af ?_
 refine Kq (aa.aN (g:=Di.gt 0 l) (k:=0) (Di.aC _) rfl rfl rfl an dH rfl (fun _=>rfl) (by decide) (by omega)) ?_
 refine Kq (Kl (.p (.int .i64 (nn l 0)))) ?_
 refine af ?_
 refine Kq (aa.aN (g:=Di.gt 0 l) (k:=1) (Di.aC _) rfl rfl rfl an dH rfl (fun _=>rfl) (by decide) (by omega)) ?_
 refine Kq (Kl (.p (.int .i64 (nn l 1)))) ?_
 refine Kq (aa.build rfl an rfl rfl) ?_
 refine aA.nil ?_
 exact wZ
theorem G9(a b:Int):Pure Tryz.prog 142 [.int .i64 a,.int .i64 b] (.agg (bT a b).cells):=by
 refine Kf (N:=10) Tryz.func142 ?_
 iterate 14 refine af ?_
 exact Fin.one rfl (⟨_,_,_,rfl,an,rfl⟩)
theorem OZ(n k:Nat)(h0:0<n)(h:n<2^32)(hl:n&&& (2^64 - n)=2^k)(hk:k<64):Pure Tryz.prog 189 [.int .u64 (n:Int)] (.int .i64 ((k:Nat):Int)):=by
 have hT:(DC.map (PV.int .u8))[(((2^k*285870213051353865%18446744073709551616 / 2^58:Nat):Int)).toNat*1]? =some (.int .u8 ((k:Nat):Int)):=by rw[JW,AD,Zu,N7 k hk];rfl
 refine Kf (N:=14) Tryz.func189 ?_
 iterate 10 refine af ?_
 refine Ki (fun hc0=> ?_) fun hc0=> ?_
 ·exfalso
  simp at hc0
  omega
 ·iterate 5 refine af ?_
  refine Kc (aa.neg (m:=((2^64 - n:Nat):Int)) rfl rfl ?_) ?_
  ·exact S3 h0 h
  refine Kc (aa.pK n (2^64 - n) rfl rfl rfl (by first | (show _<=(9223372036854775807:Int);omega) | (show _<=(4294967295:Int);omega) | (show _<=(18446744073709551615:Int);omega) | (show _<=(255:Int);omega) | (show _<=(65535:Int);omega)) (by first | decide | (show _<=(9223372036854775807:Int);omega) | (show _<=(4294967295:Int);omega) | (show _<=(18446744073709551615:Int);omega) | (show _<=(255:Int);omega) | (show _<=(65535:Int);omega))) ?_
  rw[hl]
  refine Kc (aa.mul (m:=((2^k*285870213051353865%18446744073709551616:Nat):Int)) rfl rfl rfl ?_) ?_
  ·exact Tg k
  refine Kc (aa.x6 (2^k*285870213051353865%18446744073709551616) 58 rfl rfl rfl (by first | decide | (show _<=(9223372036854775807:Int);omega) | (show _<=(4294967295:Int);omega) | (show _<=(18446744073709551615:Int);omega) | (show _<=(255:Int);omega) | (show _<=(65535:Int);omega))) ?_
  refine Kc (aa.y4 (R0:=DC.map (PV.int .u8)) O7 rfl rfl Yt Xs (by omega) (by omega)) ?_
  exact Es
theorem Oe(n k:Nat)(h0:0<n)(h:n<2^32)(hl:n&&& (2^64 - n)=2^k)(hk:k<64):Pure Tryz.prog 147 [.int .u64 (n:Int)] (.int .i64 ((k:Nat):Int)):=by
 refine Kf (N:=8) Tryz.func147 ?_
 iterate 5 refine af ?_
 refine aF.tP rfl ?_
 iterate 4 refine af ?_
 refine Kc (Kp (OZ n k h0 h hl hk)) ?_
 exact dA
theorem pH(n:Nat)(hn:n<2^24):Pure Tryz.prog 96 [.int .i64 (n:Int)] (Di.bw (jb n)):=by
 have oO:(2:Nat)^24=16777216:=by decide
 have h32:(2:Nat)^32=4294967296:=by decide
 have aaf:n<2^32:=by omega
 refine Kf (N:=19) Tryz.func96 ?_
 iterate 12 refine af ?_
 refine Kc (aa.dY rfl rfl (by rw[CR];rfl) BB (mK ?_)) ?_
 ·omega
 iterate 3 refine af ?_
 refine aF.fE [2,18] (fun g=>[(4,.p (.int .u64 ((Rx.qu n g:Nat):Int))),(3,ke 0 (bl n g).length)]) (fun g=>[dU (((bl n g).flatMap Di.bY).map .p) 3 (bl n g).length]) (fun g=>g<=32) (fun g=>32 - g) 0 (Zs _) (To.pad.trans (To.sub (Sub.Jw (Sub.cons (by show some (V.p (.int .u64 ((n:Nat):Int)))=_;rw[Rx.HD]) (Sub.cons rfl Sub.nil))))) (fun p hp=> ?_)
 have hle:=Rx.Sf n p
 iterate 6 refine af ?_
 refine Ki (fun hc0=> ?_) fun hc0=> ?_
 ·have hne:Rx.qu n p≠0:=by intro h;rw[h] at hc0;simp at hc0
  obtain⟨k,hpk,Tw,hlow,Tl,N6⟩:=Rx.IG aaf hp hne
  iterate 6 refine af ?_
  refine Kc (Kp (Oe (Rx.qu n p) k (by omega) (by omega) (WJ hne (by omega) hlow) (by omega))) ?_
  refine Kc (aa.aS rfl an (by decide) rfl rfl rfl) ?_
  refine Kc (aa.jl rfl rfl rfl an an rfl ?_ rfl (by decide) rfl an (by decide) ?_) ?_
  ·exact nU
  ·have:=UG n p;show(2*((bl n p).length+1)+192)*8<=281474976710656;omega
  iterate 5 refine af ?_
  refine Kc (aa.iI (m:=((Rx.qu n p - 1:Nat):Int)) rfl rfl rfl ((mK ?_).trans ?_)) ?_
  ·omega
  ·omega
  refine Kc (aa.pK (Rx.qu n p) (Rx.qu n p - 1) rfl rfl rfl (by first | (show _<=(9223372036854775807:Int);omega) | (show _<=(4294967295:Int);omega) | (show _<=(18446744073709551615:Int);omega) | (show _<=(255:Int);omega) | (show _<=(65535:Int);omega)) (by first | decide | (show _<=(9223372036854775807:Int);omega) | (show _<=(4294967295:Int);omega) | (show _<=(18446744073709551615:Int);omega) | (show _<=(255:Int);omega) | (show _<=(65535:Int);omega))) ?_
  iterate 2 refine af ?_
  refine⟨k+1,?_,?_,?_⟩
  ·show k+1<=32
   omega
  ·show 32 - (k+1)<32 - p
   omega
  have Wu:(bl n (k+1)).length=(bl n p).length+1:=by unfold bl;rw[N6];simp
  have eL:(bl n (k+1)).flatMap Di.bY=(bl n p).flatMap Di.bY++[.int .i64 (k:Int)]:=by unfold bl;rw[N6];simp[Di.bY]
  rw[Wu,eL]
  refine To.done [1] rfl (Sub.cons (by show some (V.p (.int .u64 _))=_;rw[Tl]) KS) ?_
  show[ah.row (bA _ (_++_)) _]=[ah.row _ _]
  rw[bF,aP,ZA]
  rfl
 ·have hz:Rx.qu n p=0:=by have h:((Rx.qu n p:Nat):Int)=0:=(by simpa using hc0);omega
  have hall:=Rx.HL hp hz
  refine aF.to (To.Vp 3 0 (bl n p).length (xs:=(bl n p).flatMap Di.bY) rfl rfl (fun h=>by rw[RV.1 h];rfl)) ?_
  refine aF.exit ?_
  iterate 6 refine af ?_
  refine Fin.fQ rfl rfl ?_
  rw[Jm hn,hall]
  rfl
theorem yd(s:Bs)(hs:s.length<=1000000):av Tryz.prog 110 [.p (.str (sB s))] [] (fun v H2=>hO s∧v= .p (.int .i64 (gF s))∧H2=[]) (fun y H2=>¬ hO s∧y=(.iface 94 (.agg [.int .i64 8]))∧H2=[]):=by
 refine av.start (N:=44) Tryz.func110 rfl rfl Kn ?_
 iterate 7 refine af ?_
 refine Kc (aa.xb s [] rfl rfl rfl) ?_
 refine af ?_
 refine Kg 8 7 0 rfl (fun h=>(aa.move rfl rfl)) ?_
 refine Kh 9 7 8 rfl rfl rfl rfl (fun h=>(aa.l7 rfl rfl Ro)) ?_
 refine Kh 10 7 9 rfl rfl rfl rfl (fun h=>(aa.leq rfl rfl rfl)) ?_
 refine Kc (aa.fH rfl rfl rfl ?_) ?_
 ·exact az
 refine af ?_
 refine Kg 13 12 0 rfl (fun h=>(aa.move rfl rfl)) ?_
 refine Kh 14 12 13 rfl rfl rfl rfl (fun h=>(aa.SX s [48] rfl rfl rfl)) ?_
 refine Kh 15 12 14 rfl rfl rfl rfl (fun h=>(aa.move rfl rfl)) ?_
 refine Kg 16 15 0 rfl (fun h=>(aa.move rfl rfl)) ?_
 refine Kh 17 15 16 rfl rfl rfl rfl (fun h=>(aa.W1 s 0 (Di.gt 0 s 0) rfl rfl rfl an (by have h2:=(Bool.and_eq_true_iff.1 h).1;have h3:=(Bool.and_eq_true_iff.1 (eq_of_beq h2)).1;have h4:s≠[]:=(by simpa using h3);have h5:=List.length_pos_iff.2 h4;rw[Zc h5,Di.aC 0 0 h5]))) ?_
 refine Kh 18 15 17 rfl rfl rfl rfl (fun h=>(aa.neq rfl rfl rfl)) ?_
 refine aj.g 19 12 rfl rfl rfl rfl rfl rfl rfl [(15,_),(18,_)] (fun h=>And.intro (.inr ⟨_,rfl,h⟩) (And.intro (.inl rfl) (trivial))) (fun h=>(aa.mG rfl rfl rfl ?_)) ?_
 ·exact az
 refine Kc (aa.fH rfl rfl rfl ?_) ?_
 ·exact az
 refine aj.cy 21 (b:=_) (dD _ 8) (dG _ 8) rfl rfl rfl rfl rfl rfl rfl an (fun hb=> ?_) (fun hb=> ?_)
 ·exact⟨_,rfl,(WN hb).2 rfl,rfl,rfl⟩
 have hy:=(WN hb).1 rfl
 have h13:=hy.2.1
 iterate 5 refine af ?_
 refine Kc (aa.isR (aa.Lp s rfl rfl an an) (Ij s)) ?_
 iterate 4 refine af ?_
 refine aF.fE [23,24,43] (fun g=>[(25,.p (.int .i64 ((g:Nat):Int))),(2,.p (.int .i64 ((oT (s.take g):Nat):Int)))]) (fun g=>[]) (fun g=>g<=s.length∧∀ j,j<g->qK (Di.gt 0 s j)=true) (fun g=>s.length - g) 0 ⟨Zs _,fun j hj=>absurd hj (by omega)⟩ (To.sub (Sub.Jw (Sub.cons rfl (Sub.cons rfl (Sub.nil))))) (fun i ⟨vt,mF⟩=> ?_)
 iterate 5 refine af ?_
 refine Ki (fun hc0=> ?_) fun hc0=> ?_
 ·have hk0:i<s.length:=by have h:=Zk hc0;omega
  have hb9:=(Di.gt 0 s i).toNat_lt
  iterate 5 refine af ?_
  refine Kc (aa.aN (g:=Di.gt 0 s) (Di.aC _) rfl rfl rfl an Yz rfl (fun _=>rfl) (by decide) hk0) ?_
  refine Kc (Kl (.p (.int .u8 (((Di.gt 0 s i)).toNat:Int)))) ?_
  iterate 7 refine af ?_
  refine Kg 32 31 4 rfl (fun h=>(aa.move rfl rfl)) ?_
  refine Kh 33 31 32 rfl rfl rfl rfl (fun h=>(aa.leq rfl rfl rfl)) ?_
  refine Kc (aa.fH rfl rfl rfl ?_) ?_
  ·exact az
  refine aj.cy 35 (b:=_) (dD _ 8) (dG _ 8) rfl rfl rfl rfl rfl rfl rfl an (fun iu=> ?_) (fun iu=> ?_)
  ·exact⟨_,rfl,P4 hk0 (LP iu),rfl,rfl⟩
  have hdi:=LP iu
  have hdd:=xH hdi
  have hvs:=Ed hk0
  have hv:=BR (s:=s) (i:=i) (by omega) h13 mF
  iterate 3 refine af ?_
  refine Kc (aa.mul (m:=((10*oT (s.take i):Nat):Int)) rfl rfl rfl ((aK ?_).trans ?_)) ?_
  ·omega
  ·omega
  refine af ?_
  refine Kc (aa.iI (m:=((((Di.gt 0 s i)).toNat - 48:Nat):Int)) rfl rfl rfl ((abp ?_).trans ?_)) ?_
  ·omega
  ·omega
  refine Kc (aa.dY rfl rfl (by rw[un5];rfl) CR (aK ?_)) ?_
  ·omega
  refine Kc (aa.add (m:=((oT (s.take (i+1)):Nat):Int)) rfl rfl rfl ((aK ?_).trans ?_)) ?_
  ·omega
  ·omega
  iterate 3 refine af ?_
  refine Kc (aa.add rfl rfl rfl (aK ?_)) ?_
  ·omega
  iterate 2 refine af ?_
  refine⟨i+1,?_,?_,?_⟩
  ·exact⟨hk0,fun j hj=>by rcases Md.1 hj with h | rfl;exact mF j h;exact hdi⟩
  ·omega
  exact To.done [] rfl KS rfl
 ·have hi2:i=s.length:=by have h:=Zl hc0;omega
  subst hi2
  have hC:=Uf hy mF
  have hyes:=uD hC
  refine aF.exit ?_
  iterate 6 refine af ?_
  refine iF.one (v:= .p (.int .i64 ((oT (s.take s.length):Nat):Int))) rfl rfl ⟨hC,?_,rfl⟩
  unfold gF
  rw[hyes,ZP]
  rfl
instance (s:Bs):Decidable (hO s):=by unfold hO;infer_instance
theorem CG(s:Bs)(hs:s.length<=1000000)(h:decide (hO s)=true):Pure Tryz.prog 110 [.str (sB s)] (.int .i64 (gF s)):=
 ((yd s hs).mono (Y9:=fun v H2=>v= .p (.int .i64 (gF s))∧H2=[]) (YA:=fun _ _=>False) (fun v H2 ⟨_,h1,h2⟩=>⟨h1,h2⟩) (fun y H2 ⟨h1,_⟩=>h1 (Zk h))).toC (fun _ _ h=>h)
theorem Mz(s:Bs)(hs:s.length<=1000000)(h:decide (hO s)=false):tK Tryz.prog 110 [.str (sB s)] (.iface 94 (.agg [.int .i64 8])):=
 (yd s hs).mono (fun v H2 ⟨h1,_⟩=>Zl h h1) (fun y H2 ⟨_,h1,_⟩=>h1)
def iU.v:iU->PV
 | .str w=> .iface 9 (.str (sB w))
 | .num k=> .iface 3 (.int .i64 k)
 | .Gh l=> .iface 35 (Di.bw l)
def iU.v1(p:iU):List PV:=[p.v]
def WD(l:List iU):PV:= .is (l.flatMap iU.v1) l.length
theorem aaw(p:iU):Hl Tryz.prog 9 p.v (.tuple [.str (sB p.sV),.bool p.OT]):=by
 cases p with
 | str l=>exact⟨_,_,rfl,.inl ⟨rfl,rfl⟩⟩
 | num i=>exact⟨_,_,rfl,.inr ⟨rfl,_,an,rfl⟩⟩
 | Gh s=>exact⟨_,_,rfl,.inr ⟨rfl,_,an,rfl⟩⟩
theorem aaZ(p:iU):Hl Tryz.prog 3 p.v (.tuple [.int .i64 p.nV,.bool p.isN]):=by
 cases p with
 | str l=>exact⟨_,_,rfl,.inr ⟨rfl,_,an,rfl⟩⟩
 | num i=>exact⟨_,_,rfl,.inl ⟨rfl,rfl⟩⟩
 | Gh s=>exact⟨_,_,rfl,.inr ⟨rfl,_,an,rfl⟩⟩
theorem abb(p:iU):Hl Tryz.prog 35 p.v (.tuple [p.lV,.bool p.isL]):=by
 cases p with
 | str l=>exact⟨_,_,rfl,.inr ⟨rfl,_,an,rfl⟩⟩
 | num i=>exact⟨_,_,rfl,.inr ⟨rfl,_,an,rfl⟩⟩
 | Gh s=>exact⟨_,_,rfl,.inl ⟨rfl,rfl⟩⟩
theorem Xm{p:iU}(h:p.OT=true):p= .str p.sV:=by cases p <;> first | rfl | cases h
theorem SE{p:iU}(h:p.isN=true):p= .num p.nV:=by cases p <;> first | rfl | cases h
theorem Ya{p:iU}(h:p.isL=true):∃ l,p= .Gh l:=by cases p <;> first | exact⟨_,rfl⟩ | cases h
theorem RG{p:iU}(h1:p.OT=false)(h2:p.isN=false)(h3:p.isL=false):False:=by cases p <;> simp_all [iU.OT,iU.isN,iU.isL]
theorem rD(s:Bs)(hs:s.length<=1000000):Pure Tryz.prog 38 [.str (sB s),.str (sB [32])] (jV (b7 s)):=by
 have hj:cQ 32 (b7 s)=s:=xF 32 s []
 have hnb:∀ x∈b7 s,Fc 32 x:=Ag 32 s [] (fun y hy=>by cases hy)
 have hg:=EB (b7 s) (sG s) hnb (by rw[hj];exact hs)
 rw[hj,MX] at hg
 refine Kf (N:=8) Tryz.func38 ?_
 iterate 8 refine af ?_
 refine Kc (Kp (hg)) ?_
 exact dA
theorem dy(ps:List iU)(h0:0<(jJ ps).length)(hn:ps.length<=50)(hok:∀ p∈ps,p.ok):Pure Tryz.prog 78 [WD ps] (.str (sB (cQ 32 (jJ ps)))):=by
 have Uv:=Iw hok
 have hwB:=XY hok
 refine Kf (N:=51) Tryz.func78 ?_
 iterate 16 refine af ?_
 refine aF.fE [2,11,12,49,50] (fun g=>[(13,.p (.int .i64 ((g:Nat):Int))),(3,ke 0 (jJ (ps.take g)).length)]) (fun g=>[dU ((((jJ (ps.take g))).flatMap lX).map .p) 9 ((jJ (ps.take g))).length]) (fun g=>g<=ps.length) (fun g=>ps.length - g) 0 (Zs _) (To.pad.trans (To.sub (Sub.Jw (Sub.cons rfl (Sub.cons rfl Sub.nil))))) (fun i hg=> ?_)
 iterate 5 refine af ?_
 refine Ki (fun hc0=> ?_) fun hc0=> ?_
 ·have hk0:i<ps.length:=by have h:=Zk hc0;omega
  have hpm:=hok _ (Di.bC (.str []) hk0)
  have hwi:=MB ps i
  iterate 5 refine af ?_
  refine Kc (aa.aN (g:=Di.gt (.str []) ps) (Di.aC _) rfl rfl rfl an W6 rfl (fun _=>rfl) (by decide) hk0) ?_
  refine Kc (Kl (.p (Di.gt (.str []) ps i).v)) ?_
  iterate 9 refine af ?_
  refine Kc (aa.taG rfl rfl lN (aaw _)) ?_
  iterate 3 refine af ?_
  refine Ki (fun cR=> ?_) fun cR=> ?_
  ·iterate 7 refine af ?_
   refine Kc (aa.aS rfl an (by decide) rfl rfl rfl) ?_
   refine Kc (aa.jl rfl rfl rfl an an rfl ?_ rfl (by decide) rfl an (by decide) ?_) ?_
   ·exact nU
   ·(try simp only[Zb,Zp]);show(2*(_+1)+192)*16<=281474976710656;omega
   iterate 3 refine af ?_
   refine Kc (aa.add rfl rfl rfl (aK ?_)) ?_
   ·omega
   iterate 2 refine af ?_
   refine⟨i+1,?_,?_,?_⟩
   ·exact hk0
   ·omega
   have eW:(jJ (ps.take (i+1)))=(jJ (ps.take i))++[(Di.gt (.str []) ps i).sV]:=by rw[Ap hk0];(conv=>lhs;rw[Xm cR]);rfl
   have Wu:((jJ (ps.take (i+1)))).length=((jJ (ps.take i))).length+1:=by rw[eW,Zb];rfl
   have eL:((jJ (ps.take (i+1)))).flatMap lX=((jJ (ps.take i))).flatMap lX++lX (Di.gt (.str []) ps i).sV:=by rw[eW,IC];simp
   exact qM
  ·iterate 2 refine af ?_
   refine Kc (aa.taG rfl rfl kn (aaZ _)) ?_
   iterate 3 refine af ?_
   refine Ki (fun jR=> ?_) fun jR=> ?_
   ·have hkn:0<=(Di.gt (.str []) ps i).nV∧(Di.gt (.str []) ps i).nV<10000000000000:=by rw[SE jR] at hpm;exact hpm
    iterate 7 refine af ?_
    refine Kc (Kp (AS (Di.gt (.str []) ps i).nV (by omega) (by omega))) ?_
    refine Kc (aa.aS rfl an (by decide) rfl rfl rfl) ?_
    refine Kc (aa.jl rfl rfl rfl an an rfl ?_ rfl (by decide) rfl an (by decide) ?_) ?_
    ·exact nU
    ·(try simp only[Zb,Zp]);show(2*(_+1)+192)*16<=281474976710656;omega
    iterate 3 refine af ?_
    refine Kc (aa.add rfl rfl rfl (aK ?_)) ?_
    ·omega
    iterate 2 refine af ?_
    refine⟨i+1,?_,?_,?_⟩
    ·exact hk0
    ·omega
    have eW:(jJ (ps.take (i+1)))=(jJ (ps.take i))++[(Lib.itoa (Di.gt (.str []) ps i).nV)]:=by rw[Ap hk0];(conv=>lhs;rw[SE jR]);rfl
    have Wu:((jJ (ps.take (i+1)))).length=((jJ (ps.take i))).length+1:=by rw[eW,Zb];rfl
    have eL:((jJ (ps.take (i+1)))).flatMap lX=((jJ (ps.take i))).flatMap lX++lX (Lib.itoa (Di.gt (.str []) ps i).nV):=by rw[eW,IC];simp
    exact qM
   ·iterate 2 refine af ?_
    refine Kc (aa.taG rfl rfl Iy (abb _)) ?_
    iterate 3 refine af ?_
    refine Ki (fun pG=> ?_) fun pG=> ?_
    ·obtain⟨l,el⟩:=Ya pG
     rw[show(Di.gt (.str []) ps i).lV=Di.bw l by rw[el];rfl]
     have hlo:l.length<=100∧∀ k∈l,0<=k∧k<10000000000000:=by rw[el] at hpm;exact hpm
     iterate 11 refine af ?_
     refine aF.fE [2,5,6,7,8,11,12,13,14,15,16,17,18,19,20,21,22,23,24,25,26,27,28,29,30,31,32,33,34,35,36,37,48,49,50] (fun g=>[(38,.p (.int .i64 ((g:Nat):Int))),(3,ke 0 (jJ (ps.take i)++(l.take g).map Lib.itoa).length)]) (fun g=>[dU ((((jJ (ps.take i)++(l.take g).map Lib.itoa)).flatMap lX).map .p) 9 ((jJ (ps.take i)++(l.take g).map Lib.itoa)).length]) (fun g=>g<=l.length) (fun g=>l.length - g) 0 (Zs _) (To.tW (To.sub (Sub.Jw (Sub.cons rfl (Sub.cons (by rw[OH,zx,ZT];rfl) Sub.nil)))) (by rw[OH,zx,ZT])) (fun j hj=> ?_)
     iterate 5 refine af ?_
     refine Ki (fun xM=> ?_) fun xM=> ?_
     ·have Xu:j<l.length:=by have h:=Zk xM;omega
      have hkj:=hlo.2 _ (Di.bC 0 Xu)
      have hlt:(l.take j).length<=j:=List.length_take_le j l
      iterate 5 refine af ?_
      refine Kc (aa.aN (g:=Di.gt 0 l) (k:=j) (Di.aC _) rfl rfl rfl an dH rfl (fun _=>rfl) (by decide) Xu) ?_
      refine Kc (Kl (.p (.int .i64 (Di.gt 0 l j)))) ?_
      iterate 5 refine af ?_
      refine Kc (Kp (AS (Di.gt 0 l j) (by omega) (by omega))) ?_
      refine Kc (aa.aS rfl an (by decide) rfl rfl rfl) ?_
      refine Kc (aa.jl rfl rfl rfl an an rfl ?_ rfl (by decide) rfl an (by decide) ?_) ?_
      ·exact nU
      ·(try simp only[Zb,Zp]);show(2*(_+1)+192)*16<=281474976710656;omega
      iterate 3 refine af ?_
      refine Kc (aa.add (m:=((j+1:Nat):Int)) rfl rfl rfl ((aK ?_).trans ?_)) ?_
      ·omega
      ·omega
      iterate 2 refine af ?_
      refine⟨j+1,?_,?_,?_⟩
      ·exact Xu
      ·omega
      have eW:(jJ (ps.take i)++(l.take (j+1)).map Lib.itoa)=(jJ (ps.take i)++(l.take j).map Lib.itoa)++[(Lib.itoa (Di.gt 0 l j))]:=by rw[ZN Xu,Di.aC 0 j Xu,ZA,<- ZK];rfl
      have Wu:((jJ (ps.take i)++(l.take (j+1)).map Lib.itoa)).length=((jJ (ps.take i)++(l.take j).map Lib.itoa)).length+1:=by rw[eW,Zb];rfl
      have eL:((jJ (ps.take i)++(l.take (j+1)).map Lib.itoa)).flatMap lX=((jJ (ps.take i)++(l.take j).map Lib.itoa)).flatMap lX++lX (Lib.itoa (Di.gt 0 l j)):=by rw[eW,IC];simp
      exact qM
     ·have hj2:j=l.length:=by have h:=Zl xM;omega
      subst hj2
      refine aF.exit ?_
      refine af ?_
      refine Kc (aa.add rfl rfl rfl (aK ?_)) ?_
      ·omega
      iterate 2 refine af ?_
      refine⟨i+1,?_,?_,?_⟩
      ·exact hk0
      ·omega
      have eP:jJ (ps.take (i+1))=jJ (ps.take i)++(l.take l.length).map Lib.itoa:=by rw[Ap hk0,el,ZP];rfl
      rw[eP]
      exact To.sub KS
    ·exact(RG cR jR pG).elim
 ·have hi2:i=ps.length:=by have h:=Zl hc0;omega
  subst hi2
  refine aF.to (To.Vp 3 0 (jJ (ps.take ps.length)).length (xs:=(jJ (ps.take ps.length)).flatMap lX) rfl rfl (fun h=>by rw[RV.1 h];rfl)) ?_
  rw[ZP]
  refine aF.exit ?_
  iterate 3 refine af ?_
  refine Kc (Kp (ot (jJ ps) 32 h0 (by omega) (by have:=L0 (c:=32) _ hwB;omega))) ?_
  exact gS
def xl(ws:List Bs):List (List V):=ws.map fun w=>[.p (.int .i64 (gF w))]
theorem Hg{ws:List Bs}{i:Nat}(h:i<ws.length):(xl ws)[i]? =some [V.p (.int .i64 (gF (Di.gt [] ws i)))]:=by
 unfold xl
 rw[Zu,Zc h,Di.aC [] i h];rfl
theorem xm(ws:List Bs):Pure Tryz.prog 42 [jV ws] (.func (.func 109) [] [.ip [jV ws] 0]):=by
 refine Kf (N:=4) Tryz.func42 ?_
 exact uZ
theorem Nc(ws:List Bs)(hl:ws.length<=1000000)(hw:∀ w∈ws,w.length<=1000000)(hC:∀ w∈ws,hO w):MY Tryz.prog 109 (fun y=>[y,.p (.ip [jV ws] 0)]) (xl ws):=by
 intro l κ nn inv fin hκ TG Gk hb h0 nA
 refine jY.gQ (N:=17) Tryz.func109 rfl rfl Kn ?_
 iterate 2 refine af ?_
 refine Kc (Kl (.p (jV ws))) ?_
 iterate 4 refine af ?_
 refine aF.tS [4,7,8,9,10,11,12,13,14,15,16] (fun g=>[(7,.p (.int .i64 ((g.1:Nat):Int)))]) (fun g=>g.2) (fun g=>g.1<=ws.length∧inv g.1 g.2) (fun g=>ws.length - g.1) (0,h0) ⟨Zs _,nA⟩ (To.sub (Sub.Sz (Sub.cons rfl Sub.nil))) (fun g hg=> ?_)
 obtain⟨i,LB⟩:=g
 obtain⟨hle,hinv⟩:=hg
 dsimp only at hle hinv ⊢
 iterate 5 refine af ?_
 refine Ki (fun hc0=> ?_) fun hc0=> ?_
 ·have hk0:i<ws.length:=by have h:=Zk hc0;omega
  have hm:=Di.bC [] hk0
  iterate 5 refine af ?_
  refine Kc (aa.aN (g:=Di.gt [] ws) (k:=i) (Di.aC _) rfl rfl rfl an CC rfl (fun _=>rfl) (by decide) hk0) ?_
  refine Kc (Kl (.p (.str (sB (Di.gt [] ws i))))) ?_
  iterate 6 refine af ?_
  refine Kc (Kp (CG (Di.gt [] ws i) (hw _ hm) (decide_eq_true (hC _ hm)))) ?_
  refine aj.yield 14 rfl rfl rfl rfl rfl rfl (hb _ _ _ hinv (Hg hk0)) ?_
  intro b2 h2 DQ
  iterate 2 refine af ?_
  refine Ki (fun cR=> ?_) fun cR=> ?_
  ·have iu:b2=false:=by simpa using cR
   subst iu
   refine af ?_
   exact⟨.inr rfl,_,en.none_ rfl,.inr (by rwa [if_neg (by decide)] at DQ)⟩
  ·have iu:b2=true:=by simpa using cR
   subst iu
   iterate 2 refine af ?_
   refine Kc (aa.add (m:=((i+1:Nat):Int)) rfl rfl rfl ((aK ?_).trans ?_)) ?_
   ·omega
   ·omega
   iterate 2 refine af ?_
   refine⟨(i+1,h2),?_,?_,?_⟩
   ·exact⟨hk0,by rwa [if_pos rfl] at DQ⟩
   ·show ws.length - (i+1)<ws.length - i
    omega
   exact To.sub KS
 ·have hi2:i=ws.length:=by have h:=Zl hc0;omega
  subst hi2
  refine aF.exit ?_
  exact⟨.inl rfl,_,en.none_ rfl,.inl (by unfold xl;rw[Zp];exact hinv)⟩
theorem Kw(ws:List Bs)(hl:ws.length<=1000000)(hw:∀ w∈ws,w.length<=1000000)(hC:¬ ∀ w∈ws,hO w):Se Tryz.prog 109 (fun y=>[y,.p (.ip [jV ws] 0)]) (xl ws) (.iface 94 (.agg [.int .i64 8])):=by
 intro l κ nn inv hκ TG hb h0 nA
 refine zq.gQ (N:=17) Tryz.func109 rfl rfl Kn ?_
 iterate 2 refine af ?_
 refine Kc (Kl (.p (jV ws))) ?_
 iterate 4 refine af ?_
 refine aF.tS [4,7,8,9,10,11,12,13,14,15,16] (fun g=>[(7,.p (.int .i64 ((g.1:Nat):Int)))]) (fun g=>g.2) (fun g=>g.1<=ws.length∧inv g.1 g.2∧∀ j,j<g.1->hO (Di.gt [] ws j)) (fun g=>ws.length - g.1) (0,h0) ⟨Zs _,nA,fun j hj=>absurd hj (by omega)⟩ (To.sub (Sub.Sz (Sub.cons rfl Sub.nil))) (fun g hg=> ?_)
 obtain⟨i,LB⟩:=g
 obtain⟨hle,hinv,hall⟩:=hg
 dsimp only at hle hinv hall ⊢
 iterate 5 refine af ?_
 refine Ki (fun hc0=> ?_) fun hc0=> ?_
 ·have hk0:i<ws.length:=by have h:=Zk hc0;omega
  have hm:=Di.bC [] hk0
  iterate 5 refine af ?_
  refine Kc (aa.aN (g:=Di.gt [] ws) (k:=i) (Di.aC _) rfl rfl rfl an CC rfl (fun _=>rfl) (by decide) hk0) ?_
  refine Kc (Kl (.p (.str (sB (Di.gt [] ws i))))) ?_
  iterate 6 refine af ?_
  refine aj.cy 13 (b:=(decide (hO (Di.gt [] ws i)))) (CG (Di.gt [] ws i) (hw _ hm)) (Mz (Di.gt [] ws i) (hw _ hm)) rfl rfl rfl rfl rfl rfl rfl an (fun hf=> ?_) (fun hf=> ?_)
  ·exact⟨rfl,_,hinv⟩
  refine aj.yield 14 rfl rfl rfl rfl rfl rfl (hb _ _ _ hinv (Hg hk0)) ?_
  intro b2 h2 DQ
  iterate 2 refine af ?_
  refine Ki (fun cR=> ?_) fun cR=> ?_
  ·rw[DQ.1] at cR
   cases cR
  ·iterate 2 refine af ?_
   refine Kc (aa.add (m:=((i+1:Nat):Int)) rfl rfl rfl ((aK ?_).trans ?_)) ?_
   ·omega
   ·omega
   iterate 2 refine af ?_
   refine⟨(i+1,h2),?_,?_,?_⟩
   ·exact⟨hk0,DQ.2,fun j hj=>by rcases Md.1 hj with h | rfl;exact hall j h;exact Zk hf⟩
   ·show ws.length - (i+1)<ws.length - i
    omega
   exact To.sub KS
 ·have hi2:i=ws.length:=by have h:=Zl hc0;omega
  subst hi2
  exact(hC fun w hw=>by obtain⟨j,hj,rfl⟩:=Pv hw;rw[Di.aC [] j hj];exact hall j hj).elim
theorem Cj(ws:List Bs)(hl:ws.length<=1000000)(hw:∀ w∈ws,w.length<=1000000)(hC:∀ w∈ws,hO w):Pure Tryz.prog 108 [.nilSlice,(.func (.func 109) [] [.ip [jV ws] 0])] (Di.bw (ws.map gF)):=by
 refine Kf (N:=13) Tryz.func108 ?_
 iterate 2 refine af ?_
 refine Kc (aa.kF rfl rfl rfl) ?_
 iterate 8 refine af ?_
 refine aF.to To.pad ?_
 refine aF.rangeFunc 0 rfl (fun _=>rfl) an (Nc ws hl hw hC) (Zf _) (Zs _) (fun _ h=>by cases h) (fun x hx=>by unfold xl at hx;obtain⟨j,_,rfl⟩:=uE.1 hx;rfl) rfl (fun k h=>h=[.cells [ke 1 k] 35,dU ((((ws.take k).map gF).flatMap Di.bY).map .p) 3 k]) (fun c h=>False) (fun _ _ h=>by rw[h];rfl) (fun _ _ h=>h.elim) rfl ?_ ?_ ?_
 ·exact Eb
 ·intro h hJ
  subst hJ
  rw[show(xl ws).length=ws.length by unfold xl;rw[Zp],ZP]
  refine af ?_
  refine aF.to (To.aag 1 0 (xs:=(ws.map gF).flatMap Di.bY) (n:=ws.length) (a:=[]) (b:=[]) [(2,.ptr 0 0)] (by decide) rfl rfl (fun h=>by rw[RV.1 h];rfl) rfl rfl KS KS) ?_
  iterate 5 refine af ?_
  refine Fin.fQ rfl rfl ?_
  unfold Di.bw
  rw[Zp]
 ·exact gZ
theorem CP(ws:List Bs)(hl:ws.length<=1000000)(hw:∀ w∈ws,w.length<=1000000)(hC:¬ ∀ w∈ws,hO w):tK Tryz.prog 108 [.nilSlice,(.func (.func 109) [] [.ip [jV ws] 0])] (.iface 94 (.agg [.int .i64 8])):=by
 refine av.start (N:=13) Tryz.func108 rfl rfl Kn ?_
 iterate 2 refine af ?_
 refine Kc (aa.kF rfl rfl rfl) ?_
 iterate 8 refine af ?_
 refine aF.to To.pad ?_
 refine aF.FG 0 rfl (fun _=>rfl) an (Kw ws hl hw hC) (Zf _) (Zs _) (fun x hx=>by unfold xl at hx;obtain⟨j,_,rfl⟩:=uE.1 hx;rfl) rfl (fun k h=>h=[.cells [ke 1 k] 35,dU ((((ws.take k).map gF).flatMap Di.bY).map .p) 3 k]) (fun _ _ h=>by rw[h];rfl) rfl ?_ ?_
 ·exact Eb
 ·intro h
  exact⟨_,rfl,rfl⟩
theorem Ky(ws:List Bs)(hl:ws.length<=1000000)(hw:∀ w∈ws,w.length<=1000000)(hC:∀ w∈ws,hO w):Pure Tryz.prog 41 [(.func (.func 109) [] [.ip [jV ws] 0])] (Di.bw (ws.map gF)):=by
 refine Kf (N:=5) Tryz.func41 ?_
 iterate 7 refine af ?_
 refine Kc (Kp (Cj ws hl hw hC)) ?_
 exact dA
theorem Js(ws:List Bs)(hl:ws.length<=1000000)(hw:∀ w∈ws,w.length<=1000000)(hC:¬ ∀ w∈ws,hO w):tK Tryz.prog 41 [(.func (.func 109) [] [.ip [jV ws] 0])] (.iface 94 (.agg [.int .i64 8])):=by
 refine av.start (N:=5) Tryz.func41 rfl rfl Kn ?_
 iterate 7 refine af ?_
 refine aj.wm 4 (CP ws hl hw hC) rfl rfl rfl rfl rfl rfl rfl an ⟨_,rfl,rfl⟩
def JS(b:bN):List PV:=T6 b++[Di.bw b.bZ]
def dF(i1 i2 i3 i4 i5:Nat)(b:bN):List V:=[aZ i1 b.au.length,aZ i2 b.ai.length,aZ i3 b.aq.length,aZ i4 b.plan.length,.p (.int .i64 (b.bad:Int)),.p (.int .i64 (b.good:Int)),aZ i5 b.bZ.length]
def dn(l:List Ck.Sk):ah:=dU ((l.flatMap Ck.Sk.cells).map .p) 60 l.length
def cV(l:List Rx.cx):ah:=dU ((l.flatMap Rx.cx.cells).map .p) 92 l.length
def de(l:List Di.aH):ah:=dU ((l.flatMap Di.aH.cells).map .p) 74 l.length
def bz(l:List Int):ah:=dU ((l.flatMap Di.bY).map .p) 3 l.length
theorem yS(l:List Int)(hl:l.length<=1000000):ax Tryz.prog 72 [.p (Di.bw l)] [] fun v H2=>v=aZ 0 l.length∧H2=[dU ((l.flatMap Di.bY).map .p) 3 l.length]:=by
 refine ax.start (N:=8) Tryz.func72 rfl rfl Kn ?_
 iterate 8 refine af ?_
 refine aj.Ae 4 rfl rfl rfl an rfl rfl rfl (fun b hb0=> ?_)
 refine af ?_
 refine Ki (fun hc0=> ?_) fun hc0=> ?_
 ·have h0:l.length=0:=hb0 hc0
  iterate 3 refine af ?_
  refine aj.to (To.z0 2 rfl) ?_
  refine aj.to To.pad ?_
  iterate 2 refine af ?_
  have hq:V.z0=aZ 0 l.length∧([.dead]:List ah)=[dU ((l.flatMap Di.bY).map .p) 3 l.length]:=⟨(oD h0).symm,by rw[oC h0]⟩
  exact qp
 ·iterate 3 refine af ?_
  refine Kc (aa.uC rfl an) ?_
  refine af ?_
  refine Kc (aa.qF rfl rfl rfl an an (lM (xs:=(l.flatMap Di.bY)) (n:=l.length) (sz:=1) (AF.cu (c:=1) (fun _=>rfl) l)) (Jv Di.bY l (fun _=>rfl)) an (by decide) ?_) ?_
  ·show(2*l.length+192)*8<=281474976710656;omega
  exact nR
theorem Jp(l:List Ck.Sk)(hl:l.length<=1000000):ax Tryz.prog 81 [.p (Ck.ic l)] [] fun v H2=>v=aZ 0 l.length∧H2=[dU ((l.flatMap Ck.Sk.cells).map .p) 60 l.length]:=by
 refine ax.start (N:=8) Tryz.func81 rfl rfl Kn ?_
 iterate 8 refine af ?_
 refine aj.Ae 4 rfl rfl rfl an rfl rfl rfl (fun b hb0=> ?_)
 refine af ?_
 refine Ki (fun hc0=> ?_) fun hc0=> ?_
 ·have h0:l.length=0:=hb0 hc0
  iterate 3 refine af ?_
  refine aj.to (To.z0 2 rfl) ?_
  refine aj.to To.pad ?_
  iterate 2 refine af ?_
  have hq:V.z0=aZ 0 l.length∧([.dead]:List ah)=[dU ((l.flatMap Ck.Sk.cells).map .p) 60 l.length]:=⟨(oD h0).symm,by rw[oC h0]⟩
  exact qp
 ·iterate 3 refine af ?_
  refine Kc (aa.uC rfl an) ?_
  refine af ?_
  refine Kc (aa.qF rfl rfl rfl an an (lM (xs:=(l.flatMap Ck.Sk.cells)) (n:=l.length) (sz:=6) (AF.cu (c:=6) (fun _=>rfl) l)) (Jv Ck.Sk.cells l (fun _=>rfl)) an (by decide) ?_) ?_
  ·show(2*l.length+192)*48<=281474976710656;omega
  exact nR
theorem Ko(l:List Di.aH)(hl:l.length<=1000000):ax Tryz.prog 82 [.p (Di.cv l)] [] fun v H2=>v=aZ 0 l.length∧H2=[dU ((l.flatMap Di.aH.cells).map .p) 74 l.length]:=by
 refine ax.start (N:=8) Tryz.func82 rfl rfl Kn ?_
 iterate 8 refine af ?_
 refine aj.Ae 4 rfl rfl rfl an rfl rfl rfl (fun b hb0=> ?_)
 refine af ?_
 refine Ki (fun hc0=> ?_) fun hc0=> ?_
 ·have h0:l.length=0:=hb0 hc0
  iterate 3 refine af ?_
  refine aj.to (To.z0 2 rfl) ?_
  refine aj.to To.pad ?_
  iterate 2 refine af ?_
  have hq:V.z0=aZ 0 l.length∧([.dead]:List ah)=[dU ((l.flatMap Di.aH.cells).map .p) 74 l.length]:=⟨(oD h0).symm,by rw[oC h0]⟩
  exact qp
 ·iterate 3 refine af ?_
  refine Kc (aa.uC rfl an) ?_
  refine af ?_
  refine Kc (aa.qF rfl rfl rfl an an (lM (xs:=(l.flatMap Di.aH.cells)) (n:=l.length) (sz:=3) (AF.cu (c:=3) (fun _=>rfl) l)) (Jv Di.aH.cells l (fun _=>rfl)) an (by decide) ?_) ?_
  ·show(2*l.length+192)*24<=281474976710656;omega
  exact nR
theorem zi{i n:Nat}{l:List V}:iH (aZ i n::l)=none:=by cases n <;> rfl
theorem xX(i1 i2 i3 i4 i5:Nat)(b:bN):fW (dF i1 i2 i3 i4 i5 b)= .agg (dF i1 i2 i3 i4 i5 b):=by
 unfold fW dF
 rw[zi]
theorem qo(i1 i2 i3 i4 i5:Nat)(b:bN):(dF i1 i2 i3 i4 i5 b).all ig=true:=by simp only[dF,Qm,List.all_nil,BU,Bool.true_and,Bool.and_true];rfl
theorem ax.kill{f:FuncId}{args:List V}{H:List ah}{v0:V}{H0:List ah}(i:Nat)(h:ax Tryz.prog f args H fun v H2=>v=v0∧H2=H0):ax Tryz.prog f args H fun v H2=>v=v0∧H2=H0.set i .dead:=
 fun w I ρ us hi fX=>(h w I ρ us hi fX).mono fun e w' ⟨u,v,J,σ,H2,h1,⟨h2,h3⟩,h4,h5,h6⟩=>⟨u,v,J,σ,H0.set i .dead,h1,⟨h2,rfl⟩,h4,by rw[<- h3];exact h5.kill i,h6⟩
theorem Fv(b:bN)(h1:b.au.length<=1000)(h2:b.ai.length<=1000)(h3:b.aq.length<=1000)(h4:b.plan.length<=1000)(h5:b.bZ.length<=1000):ax Tryz.prog 35 [.p (.agg (JS b))] [] fun v H2=>v= .agg (dF 3 2 4 5 6 b)∧H2=[.cells (dF 3 2 4 5 6 b) 83,.cells (dF 3 2 4 5 6 b) 83,cV b.ai,dn b.au,de b.aq,bz b.plan,bz b.bZ]:=by
 refine ax.start (N:=42) Tryz.func35 rfl rfl Kn ?_
 iterate 7 refine af ?_
 refine Kc (Kl (.p (.agg (JS b)))) ?_
 iterate 7 refine af ?_
 refine Kc (Kl (.p (Rx.ku b.ai))) ?_
 refine af ?_
 refine Kc (aa.Yp rfl rfl rfl an an (by decide) ?_) ?_
 ·show 16*b.ai.length<=281474976710656;omega
 iterate 2 refine af ?_
 refine Kz (aa.uQ (H':=[.cells [.p .nilSlice,.p .nilSlice,.p .nilSlice,.p .nilSlice,.p (.int .i64 0),.p (.int .i64 0),.p .nilSlice] 83,.cells [.p (Ck.ic b.au),aZ 2 b.ai.length,.p (Di.cv b.aq),.p (Di.bw b.plan),.p (.int .i64 (b.bad:Int)),.p (.int .i64 (b.good:Int)),.p (Di.bw b.bZ)] 83,dU ((List.replicate b.ai.length [.int .i64 0,.int .i64 0]).flatten.map .p) 92 b.ai.length]) rfl rfl rfl an rfl) ?_
 iterate 5 refine af ?_
 refine Kc (Kl (aZ 2 b.ai.length)) ?_
 iterate 2 refine af ?_
 refine Kc (Kl (.p (Rx.ku b.ai))) ?_
 refine Kc (aa.Xy (zs:=(List.replicate b.ai.length [.int .i64 0,.int .i64 0]).flatten) (xs:=(b.ai.flatMap Rx.cx.cells)) rfl rfl rfl an rfl (AF.cu (c:=2) (fun _=>rfl) b.ai) (by rw[AF.cu (c:=2) (fun _=>rfl)];simp) (Jv Rx.cx.cells b.ai (fun _=>rfl)) (lM (xs:=(b.ai.flatMap Rx.cx.cells)) (n:=b.ai.length) (sz:=2) (AF.cu (c:=2) (fun _=>rfl) b.ai))) ?_
 iterate 2 refine af ?_
 refine aF.bQ 10 2 [3,4] [([],false),([],false),([],false),([3],true),([],false),([],false),([],false),([4],true),([],false),([],false)] mixed (by kernel_rfl) (by decide) (by kernel_rfl) rfl (by simp[bS,bK,cj,ef,ia,fA,bE,cU,dn,cV,de,bz,dF]) ?_
 iterate 2 refine af ?_
 refine br.cons 21 rfl rfl rfl (fun _=>(Kl (.p (Ck.ic b.au)))) rfl ?_
 refine br.lay (blk:=(dn b.au)) (v:=aZ 3 b.au.length) (v0:=aZ 5 b.au.length) 22 3 rfl rfl rfl rfl rfl rfl rfl rfl (fun _=>(aa.Hr (args:=[Ck.ic b.au]) 1 5 (Jp b.au (by omega)) rfl (eK (f:=Ck.Sk.cells) (fun _=>rfl) _) rfl rfl rfl rfl rfl an)) (cJ rfl) (cJ rfl) bE ?_
 iterate 2 refine af ?_
 refine br.cons 25 rfl rfl rfl (fun _=>(Kl (.p (Di.cv b.aq)))) rfl ?_
 refine br.lay (blk:=(de b.aq)) (v:=aZ 4 b.aq.length) (v0:=aZ 5 b.aq.length) 26 4 rfl rfl rfl rfl rfl rfl rfl rfl (fun _=>(aa.Hr (args:=[Di.cv b.aq]) 1 5 (Ko b.aq (by omega)) rfl (eK (f:=Di.aH.cells) (fun _=>rfl) _) rfl rfl rfl rfl rfl an)) (cJ rfl) (cJ rfl) bE ?_
 iterate 2 refine af ?_
 refine br.nil ?_
 refine Kz (aa.uQ (H':=[.cells [.p .nilSlice,.p .nilSlice,.p .nilSlice,.p .nilSlice,.p (.int .i64 0),.p (.int .i64 0),.p .nilSlice] 83,.cells [aZ 3 b.au.length,aZ 2 b.ai.length,.p (Di.cv b.aq),.p (Di.bw b.plan),.p (.int .i64 (b.bad:Int)),.p (.int .i64 (b.good:Int)),.p (Di.bw b.bZ)] 83,cV b.ai,dn b.au,de b.aq]) rfl rfl rfl an rfl) ?_
 iterate 2 refine af ?_
 refine Kz (aa.uQ (H':=[.cells [.p .nilSlice,.p .nilSlice,.p .nilSlice,.p .nilSlice,.p (.int .i64 0),.p (.int .i64 0),.p .nilSlice] 83,.cells [aZ 3 b.au.length,aZ 2 b.ai.length,aZ 4 b.aq.length,.p (Di.bw b.plan),.p (.int .i64 (b.bad:Int)),.p (.int .i64 (b.good:Int)),.p (Di.bw b.bZ)] 83,cV b.ai,dn b.au,de b.aq]) rfl rfl rfl an rfl) ?_
 iterate 2 refine af ?_
 refine aF.bQ 9 2 [5,6] [([],false),([],false),([],false),([5],true),([],false),([],false),([6],true),([],false),([],false)] mixed (by kernel_rfl) (by decide) (by kernel_rfl) rfl (by simp[bS,bK,cj,ef,ia,fA,bE,cU,dn,cV,de,bz,dF]) ?_
 iterate 2 refine af ?_
 refine br.cons 33 rfl rfl rfl (fun _=>(Kl (.p (Di.bw b.plan)))) rfl ?_
 refine br.lay (blk:=(bz b.plan)) (v:=aZ 5 b.plan.length) (v0:=aZ 7 b.plan.length) 34 5 rfl rfl rfl rfl rfl rfl rfl rfl (fun _=>(aa.Hr (args:=[Di.bw b.plan]) 1 7 (yS b.plan (by omega)) rfl (eK (f:=Di.bY) (fun _=>rfl) _) rfl rfl rfl rfl rfl an)) (cJ rfl) (cJ rfl) bE ?_
 refine af ?_
 refine br.cons 36 rfl rfl rfl (fun _=>(Kl (.p (Di.bw b.bZ)))) rfl ?_
 refine br.lay (blk:=(bz b.bZ)) (v:=aZ 6 b.bZ.length) (v0:=aZ 7 b.bZ.length) 37 6 rfl rfl rfl rfl rfl rfl rfl rfl (fun _=>(aa.Hr (args:=[Di.bw b.bZ]) 1 7 (yS b.bZ (by omega)) rfl (eK (f:=Di.bY) (fun _=>rfl) _) rfl rfl rfl rfl rfl an)) (cJ rfl) (cJ rfl) bE ?_
 iterate 2 refine af ?_
 refine br.nil ?_
 refine Kz (aa.uQ (H':=[.cells [.p .nilSlice,.p .nilSlice,.p .nilSlice,.p .nilSlice,.p (.int .i64 0),.p (.int .i64 0),.p .nilSlice] 83,.cells [aZ 3 b.au.length,aZ 2 b.ai.length,aZ 4 b.aq.length,aZ 5 b.plan.length,.p (.int .i64 (b.bad:Int)),.p (.int .i64 (b.good:Int)),.p (Di.bw b.bZ)] 83,cV b.ai,dn b.au,de b.aq,bz b.plan,bz b.bZ]) rfl rfl rfl an rfl) ?_
 refine af ?_
 refine Kz (aa.uQ (H':=[.cells [.p .nilSlice,.p .nilSlice,.p .nilSlice,.p .nilSlice,.p (.int .i64 0),.p (.int .i64 0),.p .nilSlice] 83,.cells (dF 3 2 4 5 6 b) 83,cV b.ai,dn b.au,de b.aq,bz b.plan,bz b.bZ]) rfl rfl rfl an rfl) ?_
 iterate 3 refine af ?_
 refine Kc (aa.load (v:= .agg (dF 3 2 4 5 6 b)) rfl rfl an (show cN _ _ _ _=_ from congrArg some (xX 3 2 4 5 6 b))) ?_
 refine Kz (aa.store (H':=[.cells (dF 3 2 4 5 6 b) 83,.cells (dF 3 2 4 5 6 b) 83,cV b.ai,dn b.au,de b.aq,bz b.plan,bz b.bZ]) rfl rfl rfl rfl (qo 3 2 4 5 6 b) an rfl rfl) ?_
 iterate 2 refine af ?_
 exact lP.one rfl ⟨_,_,_,rfl,an,(show cN _ _ _ _=_ from congrArg some (xX 3 2 4 5 6 b))⟩ ⟨rfl,rfl⟩
theorem JV(b:bN)(h1:b.au.length<=1000)(h2:b.ai.length<=1000)(h3:b.aq.length<=1000)(h4:b.plan.length<=1000)(h5:b.bZ.length<=1000):ax Tryz.prog 35 ([.agg (JS b)].map .p) [] fun v H2=>v= .agg (dF 3 2 4 5 6 b)∧H2=[.dead,.dead,cV b.ai,dn b.au,de b.aq,bz b.plan,bz b.bZ]:=
 ax.kill 1 (ax.kill 0 (Fv b h1 h2 h3 h4 h5))
def cH(b:bN)(p:Di.bn)(um:V)(i1 i2 i3 i4 i5:Nat):ah:= .cells (dF i1 i2 i3 i4 i5 b++p.cells.map .p++[um,.p (.bool true)]) 87
def mQ(b:bN)(p:Di.bn)(um:V):List ah:=[cH b p um 1 2 3 4 5,dn b.au,cV b.ai,de b.aq,bz b.plan,bz b.bZ]
theorem LC(l:List Rx.cx)(x:Rx.cx):ah.row ((l.flatMap Rx.cx.cells).map .p++x.cells.map .p) 92=cV (l++[x]):=by
 unfold cV
 exact qx
theorem MU(l:List Ck.Sk)(x:Ck.Sk):ah.row ((l.flatMap Ck.Sk.cells).map .p++x.cells.map .p) 60=dn (l++[x]):=by
 unfold dn
 exact qx
theorem Lw(l:List Di.aH)(x:Di.aH):ah.row ((l.flatMap Di.aH.cells).map .p++x.cells.map .p) 74=de (l++[x]):=by
 unfold de
 exact qx
theorem BV(l:List Int)(x:Int):ah.row ((l.flatMap Di.bY).map .p++(Di.bY x).map .p) 3=bz (l++[x]):=by
 unfold bz
 exact qx
theorem lf{α:Type}(i:Nat)(l:List α)(x:α):V.row i (l.length+1)=aZ i (l++[x]).length:=by
 rw[Zb];rfl
def At6(b:bN)(p:Di.bn)(um:V)(H:List ah):Prop:=∃ i1 i2 i3 i4 i5:Nat,[0,i1,i2,i3,i4,i5].Nodup∧H[0]? =some (cH b p um i1 i2 i3 i4 i5)∧H[i1]? =some (dn b.au)∧H[i2]? =some (cV b.ai)∧H[i3]? =some (de b.aq)∧H[i4]? =some (bz b.plan)∧H[i5]? =some (bz b.bZ)
def DP(b:bN)(p:Di.bn)(um:V)(H:List ah):Prop:=6<=H.length∧∀(j:Nat) (y:ah),0<j->j<6->H[j]? =some y->y= .dead∨(mQ b p um)[j]? =some y
def Uh(b:bN)(p:Di.bn)(um:V)(H:List ah):Prop:=(∃ cs:List V,cs.length=7∧H[0]? =some (.cells (cs++p.cells.map .p++[um,.p (.bool true)]) 87))∧DP b p um H
theorem TJ(b:bN)(p:Di.bn)(um:V):At6 b p um (mQ b p um):=⟨1,2,3,4,5,by decide,rfl,rfl,rfl,rfl,rfl,rfl⟩
theorem A5(b:bN)(p:Di.bn)(um:V):DP b p um (mQ b p um):=⟨Zf _,fun j y _ _ h=> .inr h⟩
theorem fG(b:bN)(p:Di.bn)(um:V):Uh b p um (mQ b p um):=⟨⟨_,rfl,rfl⟩,A5 b p um⟩
theorem Vy(b:bN)(p:Di.bn)(a:Option Addr)(m c:Nat):VK Tryz.prog (mQ b p (.raw a m c)):=pL (by
 intro blk h
 simp only[mQ,Zr,KF,or_false] at h
 rcases h with rfl | rfl | rfl | rfl | rfl | rfl
 ·simp[cH,mQ,dF,bS,bK,cj,ef,ia,LN,Di.bn.cells]
 ·exact bE
 ·exact bE
 ·exact bE
 ·exact bE
 ·exact bE)
theorem On{H:List ah}{b:bN}{p:Di.bn}{um:V}{i1 i2 i3 i4 i5 k:Nat}{v:V}(h0:H[0]? =some (cH b p um i1 i2 i3 i4 i5))(hv:(dF i1 i2 i3 i4 i5 b++p.cells.map .p++[um,.p (.bool true)])[k]? =some v):cN H false 1 (.ptr 0 k)=some v:=by
 simp only[cN,h0]
 exact hv
theorem XV{H:List ah}{b:bN}{p:Di.bn}{um v:V}{i1 i2 i3 i4 i5 k:Nat}{cs:List V}(h0:H[0]? =some (cH b p um i1 i2 i3 i4 i5))(hk:k+1<=13)(hc:setAt (dF i1 i2 i3 i4 i5 b++p.cells.map .p++[um,.p (.bool true)]) k [v]=cs):fK H 0 k [v]=some (H.set 0 (.cells cs 87)):=by
 subst hc
 simp only[fK,h0]
 exact if_pos hk
theorem Me(b:bN)(p:Di.bn)(um:V)(i1 i2 i3 i4 i5:Nat)(H:List ah)(h0:H[0]? =some (cH b p um i1 i2 i3 i4 i5)):av Tryz.prog 139 [.ptr 0 0] H (fun v H2=>b.ai.length<24∧v= .p (.tuple [])∧H2=H) (fun y H2=>¬ b.ai.length<24∧y=(.iface 94 (.agg [.int .i64 9]))∧H2=H):=by
 refine av.start (N:=11) Tryz.func139 rfl rfl Kn ?_
 iterate 6 refine af ?_
 refine Kc (aa.load (v:=aZ i2 b.ai.length) rfl rfl an (On h0 rfl)) ?_
 refine Kc (aa.bq rfl rfl an rG) ?_
 refine af ?_
 refine aj.cy 10 (b:=_) (dD _ 9) (dG _ 9) rfl rfl rfl rfl rfl rfl rfl an (fun hb=> ?_) (fun hb=> ?_)
 ·exact⟨_,rfl,fun h=>Zl hb (by omega),rfl,rfl⟩
 refine af ?_
 have iu:=Zk hb
 exact⟨.inl rfl,_,en.none_ rfl,by omega,rfl,rfl⟩
theorem Yg(b:bN)(p:Di.bn)(um:V)(i1 i2 i3 i4 i5:Nat)(H:List ah)(h0:H[0]? =some (cH b p um i1 i2 i3 i4 i5))(n:Int):ax Tryz.prog 143 [.ptr 0 0,.p (.int .i64 n)] H (fun v H2=>v= .p (.bool (decide (n<(b.ai.length:Int))))∧H2=H):=by
 refine ax.start (N:=14) Tryz.func143 rfl rfl Kn ?_
 iterate 12 refine af ?_
 refine Kc (aa.load (v:=aZ i2 b.ai.length) rfl rfl an (On h0 rfl)) ?_
 refine Kc (aa.bq rfl rfl an rG) ?_
 iterate 4 refine af ?_
 exact lP.one rfl rfl ⟨rfl,rfl⟩
theorem MQ(b:bN)(p:Di.bn)(um:V)(i1 i2 i3 i4 i5:Nat)(H:List ah)(h0:H[0]? =some (cH b p um i1 i2 i3 i4 i5))(h2:H[i2]? =some (cV b.ai))(hi:i2≠0)(x y:Int):av Tryz.prog 87 [.ptr 0 0,.p (.int .i64 x),.p (.int .i64 y)] H (fun v H2=>b.ai.length<24∧v= .p (.int .i64 (b.ai.length:Int))∧H2=(H.set i2 .dead++[cV (b.fU ⟨x,y⟩).ai]).set 0 (cH (b.fU ⟨x,y⟩) p um i1 H.length i3 i4 i5)) (fun q H2=>¬ b.ai.length<24∧q=(.iface 94 (.agg [.int .i64 9]))∧H2=H):=by
 refine av.start (N:=33) Tryz.func87 rfl rfl Kn ?_
 have h0L:0<H.length:=(Za.1 h0).1
 have h0s:(H.set i2 .dead++[ah.row ((b.ai.flatMap Rx.cx.cells).map .p++(Rx.cx.mk x y).cells.map .p) 92])[0]? =some (cH b p um i1 i2 i3 i4 i5):=by rw[Zd (by rw[ZZ];exact h0L),Zv,if_neg hi];exact h0
 iterate 7 refine af ?_
 refine aj.eY 8 (Me b p um i1 i2 i3 i4 i5 H h0) rfl rfl rfl rfl rfl rfl rfl an (fun y H2 iw=> ?_) (fun v H2 iw=> ?_)
 ·obtain⟨q1,q2,q3⟩:=iw
  exact⟨_,rfl,q1,q2,q3⟩
 obtain⟨hlt,rfl,hH⟩:=iw
 have hH:=hH.symm
 subst hH
 iterate 9 refine af ?_
 refine Kc (aa.load (v:=aZ i2 b.ai.length) rfl rfl an (On h0 rfl)) ?_
 iterate 3 refine af ?_
 refine Kc (aa.aS rfl an (by decide) rfl rfl rfl) ?_
 refine Kc (aa.qJ (i:=i2) (len:=b.ai.length) (cs:=(b.ai.flatMap Rx.cx.cells).map .p) (ys:=(Rx.cx.mk x y).cells.map .p) (n:=1) rfl rfl rfl an an h2 ?_ rfl (by decide) rfl an (by decide) ?_) ?_
 ·rw[Zp,AF.cu (c:=2) (fun _=>rfl)];rfl
 ·show(2*(b.ai.length+1)+192)*16<=281474976710656;omega
 iterate 4 refine af ?_
 refine Kz (aa.store rfl rfl rfl rfl rfl an rfl (XV h0s (by decide) rfl)) ?_
 iterate 8 refine af ?_
 refine Kc (aa.load (v:= .row H.length (b.ai.length+1)) rfl rfl an (by simp only[cN];rw[Zv,if_pos rfl,if_pos (by rw[Zb,ZZ];omega)];rfl)) ?_
 refine af ?_
 refine Kc (aa.iI (m:=(b.ai.length:Int)) rfl rfl rfl ((aK ?_).trans ?_)) ?_
 ·omega
 ·omega
 iterate 3 refine af ?_
 refine iF.one rfl rfl ⟨hlt,rfl,?_⟩
 rw[LC]
 congr 1
 unfold cH dF
 have eA:aZ H.length (b.fU ⟨x,y⟩).ai.length= .row H.length (b.ai.length+1):=(lf H.length b.ai ⟨x,y⟩).symm
 rw[eA]
 rfl
theorem AE(b:bN)(p:Di.bn)(a:Option Addr)(m c:Nat):av Tryz.prog 139 [.ptr 0 0] (mQ b p (.raw a m c)) (fun v H2=>b.ai.length<24∧v= .p (.tuple [])∧H2=mQ b p (.raw a m c)) (fun y H2=>¬ b.ai.length<24∧y=(.iface 94 (.agg [.int .i64 9]))∧H2=mQ b p (.raw a m c)):=Me b p (.raw a m c) 1 2 3 4 5 (mQ b p (.raw a m c)) rfl
theorem uw(b:bN)(p:Di.bn)(a:Option Addr)(m c:Nat)(n:Int):ax Tryz.prog 143 [.ptr 0 0,.p (.int .i64 n)] (mQ b p (.raw a m c)) (fun v H2=>v= .p (.bool (decide (n<(b.ai.length:Int))))∧H2=mQ b p (.raw a m c)):=Yg b p (.raw a m c) 1 2 3 4 5 (mQ b p (.raw a m c)) rfl n
theorem zE(b:bN)(p:Di.bn)(a:Option Addr)(m c:Nat)(x y:Int):av Tryz.prog 87 [.ptr 0 0,.p (.int .i64 x),.p (.int .i64 y)] (mQ b p (.raw a m c)) (fun v H2=>b.ai.length<24∧v= .p (.int .i64 (b.ai.length:Int))∧H2=[cH (b.fU ⟨x,y⟩) p (.raw a m c) 1 6 3 4 5,dn b.au,.dead,de b.aq,bz b.plan,bz b.bZ,cV (b.fU ⟨x,y⟩).ai]) (fun q H2=>¬ b.ai.length<24∧q=(.iface 94 (.agg [.int .i64 9]))∧H2=mQ b p (.raw a m c)):=MQ b p (.raw a m c) 1 2 3 4 5 (mQ b p (.raw a m c)) rfl rfl (by decide) x y
end Go.Proofs.YtibffijhebobmaaGreatDoor
end
