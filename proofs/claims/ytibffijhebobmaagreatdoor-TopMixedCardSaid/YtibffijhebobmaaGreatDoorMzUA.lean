/-
 Contracts of the library's shelf, laid at this program by the kit's tool.
 Chapter 15: what the library's texts do at this program: numbers as texts; texts that are cut, joined, looked at.
 The program of chapter 15: small functions; the batches of a set; a reply.
 The program of chapter 15: a number in a word; a reply.
 The program of chapter 15: the numbers in words.
 The program of chapter 15: books that are copied.
 The program of chapter 15: the floor; a card more.
-/
import Derived.Shelf.LaysM
import Derived.Shelf.Strconv.Itoa3
import Derived.Shelf.Bits.Mul64
import Derived.Shelf.Strings.Count
import Derived.Shelf.Strings.Search3
import Derived.Shelf.Strings.SplitCore
import Derived.Shelf.Strings.Prefix
import Derived.Shelf.Strings.OnBuilder
import Derived.Shelf.Small.Strs
import Derived.Shelf.Small.Wraps
import Derived.Shelf.Spec.TrailingZeros
import Derived.Shelf.Lays7
import Derived.Shelf.Strconv.Atoi
import Derived.Shelf.Strings.Fields
import Derived.Test.YtibffijhebobmaaGreatDoorProg
import Derived.Test.YtibffijhebobmaaGreatDoorMzUP
import Derived.Test.YtibffijhebobmaaGreatDoorMzUF
import Derived.Test.YtibffijhebobmaaGreatDoorFaUF
import Derived.Test.YtibffijhebobmaaGreatDoorMzUM
import Derived.Test.YtibffijhebobmaaGreatDoorMzUZ
theorem Dj{A:Prop}(h:A:=by
 intro l tmps k h x hJ hx
 subst hJ
 have hk:k<ws.length:=by have:=(Za.1 hx).1;unfold uM at this;rwa [Zo] at this
 obtain rfl:x=[.p (.int .i64 (gv ws[k]))]:=by unfold uM at hx;rw[Zt,Zb hk] at hx;simpa using hx.symm
 iterate 3 refine af ?_
 refine⟨rfl,rfl,?_⟩
 iterate 2 refine af ?_
 refine Kc (Kl (kL 1 k)) ?_
 refine af ?_
 refine Kc (aa.aQ rfl an (by decide) rfl rfl rfl) ?_
 refine Kc (aa.kn rfl rfl rfl an an rfl ?_ rfl (by decide) rfl an (by decide) ?_) ?_
 ·rw[Zo,AF.cx (c:=1) (fun _=>rfl),Zo,x7];show min _ _*1=_*1;omega
 ·omega
 iterate 2 refine af ?_
 refine⟨_,rfl,To.done [0,3,2] rfl Sub.nil ?_⟩
 show[ai.cells [V.row 1 (k+1)] 35,ai.row (bq _ (_++_)) _,_]=_
 rw[bA,aX,<- Y1 hk,ZG,JP,ZG]
 rfl):A:=h
theorem ua{A:Prop}(h:A:=by
 rw[V0,eL]
 refine To.done [1] rfl KS ?_
 show[ai.row (bq _ (_++_)) _]=[ai.row _ _]
 rw[bA,aX,ZG]
 rfl):A:=h
theorem qB{A:Prop}(h:A:=by
 rw[Zd,JP,ZG]
 simp[dL]):A:=h
theorem qh{A:Prop}(h:A:=by
 rw[Zo,AF.cx (c:=1) (fun _=>rfl)];rfl):A:=h
set_option linter.unusedSimpArgs false
set_option linter.unusedVariables false
section
namespace Go.Proofs
open Go.Shelf
def Tryz.As:Go.Shelf.Ren:=⟨fun | 171=>14 | 243=>43 | 246=>111 | 283=>154 | 284=>155 | 285=>156 | 286=>157 | 129=>193 | 317=>192 | 318=>194 | 319=>195 | 320=>147 | 337=>188 | 338=>189 | n=>n,fun | 3=>3 | 9=>9 | 2=>2 | 4=>4 | 171=>223 | 0=>0 | 53=>224 | 37=>68 | 5=>5 | 173=>227 | 212=>269 | 51=>52 | 20=>20 | 213=>270 | 46=>175 | 232=>283 | 233=>284 | n=>n,fun | 17=>5 | 18=>6 | 19=>7 | n=>n⟩
theorem Tryz.Lo:Go.Proofs.LaysM.n171 Tryz.prog Tryz.As:={
 mixed:=by kernel_rfl
 f129:= Tryz.func193.trans (congrArg some (by kernel_rfl))
 f171:= Tryz.func14.trans (congrArg some (by kernel_rfl))
 f243:= Tryz.func43.trans (congrArg some (by kernel_rfl))
 f246:= Tryz.func111.trans (congrArg some (by kernel_rfl))
 f283:= Tryz.func154.trans (congrArg some (by kernel_rfl))
 f284:= Tryz.func155.trans (congrArg some (by kernel_rfl))
 f285:= Tryz.func156.trans (congrArg some (by kernel_rfl))
 f286:= Tryz.func157.trans (congrArg some (by kernel_rfl))
 f317:= Tryz.func192.trans (congrArg some (by kernel_rfl))
 f318:= Tryz.func194.trans (congrArg some (by kernel_rfl))
 f319:= Tryz.func195.trans (congrArg some (by kernel_rfl))
 f320:= Tryz.func147.trans (congrArg some (by kernel_rfl))
 f337:= Tryz.func188.trans (congrArg some (by kernel_rfl))
 f338:= Tryz.func189.trans (congrArg some (by kernel_rfl))
 t0:= Tryz.underlying0
 a0:= Tryz.isAgg0
 z0:= Tryz.sizeOf0
 v0:= Tryz.zeroValue0
 t2:= Tryz.underlying2
 a2:= Tryz.isAgg2
 z2:= Tryz.sizeOf2
 v2:= Tryz.zeroValue2
 t3:= Tryz.underlying3
 a3:= Tryz.isAgg3
 z3:= Tryz.sizeOf3
 v3:= Tryz.zeroValue3
 t4:= Tryz.underlying4
 a4:= Tryz.isAgg4
 z4:= Tryz.sizeOf4
 v4:= Tryz.zeroValue4
 t5:= Tryz.underlying5
 a5:= Tryz.isAgg5
 z5:= Tryz.sizeOf5
 v5:= Tryz.zeroValue5
 t9:= Tryz.underlying9
 a9:= Tryz.isAgg9
 z9:= Tryz.sizeOf9
 v9:= Tryz.zeroValue9
 t20:= Tryz.underlying20
 a20:= Tryz.isAgg20
 z20:= Tryz.sizeOf20
 v20:= Tryz.zeroValue20
 t37:= Tryz.underlying68
 a37:= Tryz.isAgg68
 z37:= Tryz.sizeOf68
 v37:= Tryz.zeroValue68
 t46:= Tryz.underlying175
 a46:= Tryz.isAgg175
 z46:= Tryz.sizeOf175
 v46:= Tryz.zeroValue175
 t51:= Tryz.underlying52
 a51:= Tryz.isAgg52
 z51:= Tryz.sizeOf52
 v51:= Tryz.zeroValue52
 t53:= Tryz.underlying224
 a53:= Tryz.isAgg224
 z53:= Tryz.sizeOf224
 v53:= Tryz.zeroValue224
 t171:= Tryz.underlying223
 a171:= Tryz.isAgg223
 z171:= Tryz.sizeOf223
 v171:= Tryz.zeroValue223
 t173:= Tryz.underlying227
 a173:= Tryz.isAgg227
 z173:= Tryz.sizeOf227
 v173:= Tryz.zeroValue227
 t212:= Tryz.underlying269
 a212:= Tryz.isAgg269
 z212:= Tryz.sizeOf269
 v212:= Tryz.zeroValue269
 t213:= Tryz.underlying270
 a213:= Tryz.isAgg270
 z213:= Tryz.sizeOf270
 t232:= Tryz.underlying283
 a232:= Tryz.isAgg283
 z232:= Tryz.sizeOf283
 v232:= Tryz.zeroValue283
 t233:= Tryz.underlying284
 a233:= Tryz.isAgg284
 z233:= Tryz.sizeOf284
 v233:= Tryz.zeroValue284
 g17:=by kernel_rfl
 g18:=by kernel_rfl
 g19:=by kernel_rfl
 i0:=by kernel_rfl
 i2:=by kernel_rfl
 i3:=by kernel_rfl
 i4:=by kernel_rfl
 i5:=by kernel_rfl
 i9:=by kernel_rfl
 i20:=by kernel_rfl
 i37:=by kernel_rfl
 i46:=by kernel_rfl
 i51:=by kernel_rfl
 i53:=by kernel_rfl
 i171:=by kernel_rfl
 i173:=by kernel_rfl
 i212:=by kernel_rfl
 i232:=by kernel_rfl
 i233:=by kernel_rfl
 m17:=by kernel_rfl
 m18:=by kernel_rfl
 m19:=by kernel_rfl}
def Tryz.tq:Go.Shelf.Ren:=⟨fun | 156=>134 | 165=>173 | 166=>79 | 169=>80 | 240=>135 | 241=>203 | 276=>174 | 277=>211 | n=>n,fun | 31=>27 | 9=>9 | 3=>3 | 4=>4 | 0=>0 | 20=>20 | 72=>148 | 76=>65 | 70=>146 | 37=>68 | 75=>64 | 127=>199 | 164=>256 | 5=>5 | 80=>154 | n=>n,fun | n=>n⟩
theorem Tryz.P8:Go.Proofs.Lays.n156 Tryz.prog Tryz.tq:={
 mixed:=by kernel_rfl
 f156:= Tryz.func134.trans (congrArg some (by kernel_rfl))
 f165:= Tryz.func173.trans (congrArg some (by kernel_rfl))
 f166:= Tryz.func79.trans (congrArg some (by kernel_rfl))
 f169:= Tryz.func80.trans (congrArg some (by kernel_rfl))
 f240:= Tryz.func135.trans (congrArg some (by kernel_rfl))
 f241:= Tryz.func203.trans (congrArg some (by kernel_rfl))
 f276:= Tryz.func174.trans (congrArg some (by kernel_rfl))
 f277:= Tryz.func211.trans (congrArg some (by kernel_rfl))
 t0:= Tryz.underlying0
 a0:= Tryz.isAgg0
 z0:= Tryz.sizeOf0
 v0:= Tryz.zeroValue0
 t3:= Tryz.underlying3
 a3:= Tryz.isAgg3
 z3:= Tryz.sizeOf3
 v3:= Tryz.zeroValue3
 t4:= Tryz.underlying4
 a4:= Tryz.isAgg4
 z4:= Tryz.sizeOf4
 v4:= Tryz.zeroValue4
 t9:= Tryz.underlying9
 a9:= Tryz.isAgg9
 z9:= Tryz.sizeOf9
 v9:= Tryz.zeroValue9
 t20:= Tryz.underlying20
 a20:= Tryz.isAgg20
 z20:= Tryz.sizeOf20
 v20:= Tryz.zeroValue20
 t31:= Tryz.underlying27
 a31:= Tryz.isAgg27
 z31:= Tryz.sizeOf27
 v31:= Tryz.zeroValue27
 t37:= Tryz.underlying68
 a37:= Tryz.isAgg68
 z37:= Tryz.sizeOf68
 v37:= Tryz.zeroValue68
 t70:= Tryz.underlying146
 a70:= Tryz.isAgg146
 z70:= Tryz.sizeOf146
 v70:= Tryz.zeroValue146
 t72:= Tryz.underlying148
 a72:= Tryz.isAgg148
 z72:= Tryz.sizeOf148
 v72:= Tryz.zeroValue148
 t75:= Tryz.underlying64
 a75:= Tryz.isAgg64
 z75:= Tryz.sizeOf64
 v75:= Tryz.zeroValue64
 t76:= Tryz.underlying65
 a76:= Tryz.isAgg65
 z76:= Tryz.sizeOf65
 v76:= Tryz.zeroValue65
 t127:= Tryz.underlying199
 a127:= Tryz.isAgg199
 z127:= Tryz.sizeOf199
 v127:= Tryz.zeroValue199
 t164:= Tryz.underlying256
 a164:= Tryz.isAgg256
 z164:= Tryz.sizeOf256
 v164:= Tryz.zeroValue256}
def Tryz.Ex:Go.Shelf.Ren:=⟨fun | 221=>84 | 268=>137 | 138=>138 | 143=>47 | 195=>175 | 197=>176 | 218=>177 | 219=>112 | 260=>204 | 217=>158 | 225=>159 | 224=>160 | 267=>161 | 266=>196 | 314=>197 | n=>n,fun | 9=>9 | 3=>3 | 31=>27 | 4=>4 | 0=>0 | 105=>258 | 21=>21 | 5=>5 | 46=>175 | 119=>123 | 139=>291 | 138=>290 | 146=>271 | 51=>52 | n=>n,fun | 1=>2 | 3=>8 | 4=>9 | n=>n⟩
theorem Tryz.PA:Go.Proofs.Lays.n221 Tryz.prog Tryz.Ex:={
 mixed:=by kernel_rfl
 f138:= Tryz.func138.trans (congrArg some (by kernel_rfl))
 f143:= Tryz.func47.trans (congrArg some (by kernel_rfl))
 f195:= Tryz.func175.trans (congrArg some (by kernel_rfl))
 f197:= Tryz.func176.trans (congrArg some (by kernel_rfl))
 f217:= Tryz.func158.trans (congrArg some (by kernel_rfl))
 f218:= Tryz.func177.trans (congrArg some (by kernel_rfl))
 f219:= Tryz.func112.trans (congrArg some (by kernel_rfl))
 f221:= Tryz.func84.trans (congrArg some (by kernel_rfl))
 f224:= Tryz.func160.trans (congrArg some (by kernel_rfl))
 f225:= Tryz.func159.trans (congrArg some (by kernel_rfl))
 f260:= Tryz.func204.trans (congrArg some (by kernel_rfl))
 f266:= Tryz.func196.trans (congrArg some (by kernel_rfl))
 f267:= Tryz.func161.trans (congrArg some (by kernel_rfl))
 f268:= Tryz.func137.trans (congrArg some (by kernel_rfl))
 f314:= Tryz.func197.trans (congrArg some (by kernel_rfl))
 t0:= Tryz.underlying0
 a0:= Tryz.isAgg0
 z0:= Tryz.sizeOf0
 v0:= Tryz.zeroValue0
 t3:= Tryz.underlying3
 a3:= Tryz.isAgg3
 z3:= Tryz.sizeOf3
 v3:= Tryz.zeroValue3
 t4:= Tryz.underlying4
 a4:= Tryz.isAgg4
 z4:= Tryz.sizeOf4
 v4:= Tryz.zeroValue4
 t5:= Tryz.underlying5
 a5:= Tryz.isAgg5
 z5:= Tryz.sizeOf5
 v5:= Tryz.zeroValue5
 t9:= Tryz.underlying9
 a9:= Tryz.isAgg9
 z9:= Tryz.sizeOf9
 v9:= Tryz.zeroValue9
 t21:= Tryz.underlying21
 a21:= Tryz.isAgg21
 z21:= Tryz.sizeOf21
 v21:= Tryz.zeroValue21
 t31:= Tryz.underlying27
 a31:= Tryz.isAgg27
 z31:= Tryz.sizeOf27
 v31:= Tryz.zeroValue27
 t46:= Tryz.underlying175
 a46:= Tryz.isAgg175
 z46:= Tryz.sizeOf175
 v46:= Tryz.zeroValue175
 t51:= Tryz.underlying52
 a51:= Tryz.isAgg52
 z51:= Tryz.sizeOf52
 v51:= Tryz.zeroValue52
 t105:= Tryz.underlying258
 a105:= Tryz.isAgg258
 z105:= Tryz.sizeOf258
 v105:= Tryz.zeroValue258
 t119:= Tryz.underlying123
 a119:= Tryz.isAgg123
 z119:= Tryz.sizeOf123
 t138:= Tryz.underlying290
 a138:= Tryz.isAgg290
 z138:= Tryz.sizeOf290
 v138:= Tryz.zeroValue290
 t139:= Tryz.underlying291
 a139:= Tryz.isAgg291
 z139:= Tryz.sizeOf291
 v139:= Tryz.zeroValue291
 t146:= Tryz.underlying271
 a146:= Tryz.isAgg271
 z146:= Tryz.sizeOf271
 v146:= Tryz.zeroValue271
 g1:=by kernel_rfl
 g3:=by kernel_rfl
 g4:=by kernel_rfl}
def Tryz.Az:Go.Shelf.Ren:=⟨fun | 143=>47 | 219=>112 | 217=>158 | 225=>159 | 224=>160 | 267=>161 | 266=>196 | 314=>197 | n=>n,fun | 9=>9 | 3=>3 | 4=>4 | 5=>5 | 46=>175 | 146=>271 | 51=>52 | n=>n,fun | 1=>2 | n=>n⟩
theorem Tryz.Pf:Go.Proofs.Lays.n143 Tryz.prog Tryz.Az:={
 mixed:=by kernel_rfl
 f143:= Tryz.func47.trans (congrArg some (by kernel_rfl))
 f217:= Tryz.func158.trans (congrArg some (by kernel_rfl))
 f219:= Tryz.func112.trans (congrArg some (by kernel_rfl))
 f224:= Tryz.func160.trans (congrArg some (by kernel_rfl))
 f225:= Tryz.func159.trans (congrArg some (by kernel_rfl))
 f266:= Tryz.func196.trans (congrArg some (by kernel_rfl))
 f267:= Tryz.func161.trans (congrArg some (by kernel_rfl))
 f314:= Tryz.func197.trans (congrArg some (by kernel_rfl))
 t3:= Tryz.underlying3
 a3:= Tryz.isAgg3
 z3:= Tryz.sizeOf3
 v3:= Tryz.zeroValue3
 t4:= Tryz.underlying4
 a4:= Tryz.isAgg4
 z4:= Tryz.sizeOf4
 v4:= Tryz.zeroValue4
 t5:= Tryz.underlying5
 a5:= Tryz.isAgg5
 z5:= Tryz.sizeOf5
 v5:= Tryz.zeroValue5
 t9:= Tryz.underlying9
 a9:= Tryz.isAgg9
 z9:= Tryz.sizeOf9
 v9:= Tryz.zeroValue9
 t46:= Tryz.underlying175
 a46:= Tryz.isAgg175
 z46:= Tryz.sizeOf175
 v46:= Tryz.zeroValue175
 t51:= Tryz.underlying52
 a51:= Tryz.isAgg52
 z51:= Tryz.sizeOf52
 v51:= Tryz.zeroValue52
 t146:= Tryz.underlying271
 a146:= Tryz.isAgg271
 z146:= Tryz.sizeOf271
 v146:= Tryz.zeroValue271
 g1:=by kernel_rfl}
def Tryz.C1:Go.Shelf.Ren:=⟨fun | 138=>138 | 195=>175 | 218=>177 | 143=>47 | 219=>112 | 217=>158 | 225=>159 | 224=>160 | 267=>161 | 266=>196 | 314=>197 | n=>n,fun | 9=>9 | 3=>3 | 4=>4 | 5=>5 | 0=>0 | 46=>175 | 146=>271 | 51=>52 | n=>n,fun | 1=>2 | n=>n⟩
theorem Tryz.PD:Go.Proofs.Lays.n138 Tryz.prog Tryz.C1:={
 mixed:=by kernel_rfl
 f138:= Tryz.func138.trans (congrArg some (by kernel_rfl))
 f143:= Tryz.func47.trans (congrArg some (by kernel_rfl))
 f195:= Tryz.func175.trans (congrArg some (by kernel_rfl))
 f217:= Tryz.func158.trans (congrArg some (by kernel_rfl))
 f218:= Tryz.func177.trans (congrArg some (by kernel_rfl))
 f219:= Tryz.func112.trans (congrArg some (by kernel_rfl))
 f224:= Tryz.func160.trans (congrArg some (by kernel_rfl))
 f225:= Tryz.func159.trans (congrArg some (by kernel_rfl))
 f266:= Tryz.func196.trans (congrArg some (by kernel_rfl))
 f267:= Tryz.func161.trans (congrArg some (by kernel_rfl))
 f314:= Tryz.func197.trans (congrArg some (by kernel_rfl))
 t0:= Tryz.underlying0
 a0:= Tryz.isAgg0
 z0:= Tryz.sizeOf0
 v0:= Tryz.zeroValue0
 t3:= Tryz.underlying3
 a3:= Tryz.isAgg3
 z3:= Tryz.sizeOf3
 v3:= Tryz.zeroValue3
 t4:= Tryz.underlying4
 a4:= Tryz.isAgg4
 z4:= Tryz.sizeOf4
 v4:= Tryz.zeroValue4
 t5:= Tryz.underlying5
 a5:= Tryz.isAgg5
 z5:= Tryz.sizeOf5
 v5:= Tryz.zeroValue5
 t9:= Tryz.underlying9
 a9:= Tryz.isAgg9
 z9:= Tryz.sizeOf9
 v9:= Tryz.zeroValue9
 t46:= Tryz.underlying175
 a46:= Tryz.isAgg175
 z46:= Tryz.sizeOf175
 v46:= Tryz.zeroValue175
 t51:= Tryz.underlying52
 a51:= Tryz.isAgg52
 z51:= Tryz.sizeOf52
 v51:= Tryz.zeroValue52
 t146:= Tryz.underlying271
 a146:= Tryz.isAgg271
 z146:= Tryz.sizeOf271
 v146:= Tryz.zeroValue271
 g1:=by kernel_rfl}
def Tryz.Bp:Go.Shelf.Ren:=⟨fun | 137=>132 | 217=>158 | 266=>196 | n=>n,fun | 9=>9 | 5=>5 | 3=>3 | n=>n,fun | n=>n⟩
theorem Tryz.Qj:Go.Proofs.Lays.n137 Tryz.prog Tryz.Bp:={
 mixed:=by kernel_rfl
 f137:= Tryz.func132.trans (congrArg some (by kernel_rfl))
 f217:= Tryz.func158.trans (congrArg some (by kernel_rfl))
 f266:= Tryz.func196.trans (congrArg some (by kernel_rfl))
 t3:= Tryz.underlying3
 a3:= Tryz.isAgg3
 z3:= Tryz.sizeOf3
 v3:= Tryz.zeroValue3
 t5:= Tryz.underlying5
 a5:= Tryz.isAgg5
 z5:= Tryz.sizeOf5
 v5:= Tryz.zeroValue5
 t9:= Tryz.underlying9
 a9:= Tryz.isAgg9
 z9:= Tryz.sizeOf9
 v9:= Tryz.zeroValue9}
def Tryz.Br:Go.Shelf.Ren:=⟨fun | 100=>75 | 207=>130 | n=>n,fun | 9=>9 | 4=>4 | 3=>3 | n=>n,fun | n=>n⟩
theorem Tryz.ON:Go.Proofs.Lays.n100 Tryz.prog Tryz.Br:={
 mixed:=by kernel_rfl
 f100:= Tryz.func75.trans (congrArg some (by kernel_rfl))
 f207:= Tryz.func130.trans (congrArg some (by kernel_rfl))
 t3:= Tryz.underlying3
 a3:= Tryz.isAgg3
 z3:= Tryz.sizeOf3
 v3:= Tryz.zeroValue3
 t4:= Tryz.underlying4
 a4:= Tryz.isAgg4
 z4:= Tryz.sizeOf4
 v4:= Tryz.zeroValue4
 t9:= Tryz.underlying9
 a9:= Tryz.isAgg9
 z9:= Tryz.sizeOf9
 v9:= Tryz.zeroValue9}
def Tryz.CW:Go.Shelf.Ren:=⟨fun | 102=>77 | 209=>133 | 207=>130 | n=>n,fun | 9=>9 | 4=>4 | 3=>3 | n=>n,fun | n=>n⟩
theorem Tryz.Pq:Go.Proofs.Lays.n102 Tryz.prog Tryz.CW:={
 mixed:=by kernel_rfl
 f102:= Tryz.func77.trans (congrArg some (by kernel_rfl))
 f207:= Tryz.func130.trans (congrArg some (by kernel_rfl))
 f209:= Tryz.func133.trans (congrArg some (by kernel_rfl))
 t3:= Tryz.underlying3
 a3:= Tryz.isAgg3
 z3:= Tryz.sizeOf3
 v3:= Tryz.zeroValue3
 t4:= Tryz.underlying4
 a4:= Tryz.isAgg4
 z4:= Tryz.sizeOf4
 v4:= Tryz.zeroValue4
 t9:= Tryz.underlying9
 a9:= Tryz.isAgg9
 z9:= Tryz.sizeOf9
 v9:= Tryz.zeroValue9}
def Tryz.Bf:Go.Shelf.Ren:=⟨fun | 144=>16 | 143=>47 | 219=>112 | 217=>158 | 225=>159 | 224=>160 | 267=>161 | 266=>196 | 314=>197 | n=>n,fun | 9=>9 | 4=>4 | 3=>3 | 5=>5 | 46=>175 | 146=>271 | 51=>52 | n=>n,fun | 1=>2 | n=>n⟩
theorem Tryz.Qt:Go.Proofs.Lays.n144 Tryz.prog Tryz.Bf:={
 mixed:=by kernel_rfl
 f143:= Tryz.func47.trans (congrArg some (by kernel_rfl))
 f144:= Tryz.func16.trans (congrArg some (by kernel_rfl))
 f217:= Tryz.func158.trans (congrArg some (by kernel_rfl))
 f219:= Tryz.func112.trans (congrArg some (by kernel_rfl))
 f224:= Tryz.func160.trans (congrArg some (by kernel_rfl))
 f225:= Tryz.func159.trans (congrArg some (by kernel_rfl))
 f266:= Tryz.func196.trans (congrArg some (by kernel_rfl))
 f267:= Tryz.func161.trans (congrArg some (by kernel_rfl))
 f314:= Tryz.func197.trans (congrArg some (by kernel_rfl))
 t3:= Tryz.underlying3
 a3:= Tryz.isAgg3
 z3:= Tryz.sizeOf3
 v3:= Tryz.zeroValue3
 t4:= Tryz.underlying4
 a4:= Tryz.isAgg4
 z4:= Tryz.sizeOf4
 v4:= Tryz.zeroValue4
 t5:= Tryz.underlying5
 a5:= Tryz.isAgg5
 z5:= Tryz.sizeOf5
 v5:= Tryz.zeroValue5
 t9:= Tryz.underlying9
 a9:= Tryz.isAgg9
 z9:= Tryz.sizeOf9
 v9:= Tryz.zeroValue9
 t46:= Tryz.underlying175
 a46:= Tryz.isAgg175
 z46:= Tryz.sizeOf175
 v46:= Tryz.zeroValue175
 t51:= Tryz.underlying52
 a51:= Tryz.isAgg52
 z51:= Tryz.sizeOf52
 v51:= Tryz.zeroValue52
 t146:= Tryz.underlying271
 a146:= Tryz.isAgg271
 z146:= Tryz.sizeOf271
 v146:= Tryz.zeroValue271
 g1:=by kernel_rfl}
def Tryz.Eg:Go.Shelf.Ren:=⟨fun | 172=>24 | 244=>61 | 245=>62 | 247=>118 | 279=>119 | 280=>120 | 281=>121 | 282=>122 | 287=>168 | 316=>169 | 171=>14 | 205=>170 | 321=>201 | 322=>202 | 243=>43 | 246=>111 | 283=>154 | 284=>155 | 285=>156 | 286=>157 | 129=>193 | 317=>192 | 318=>194 | 319=>195 | 320=>147 | 337=>188 | 338=>189 | n=>n,fun | 9=>9 | 3=>3 | 75=>64 | 76=>65 | 4=>4 | 5=>5 | 167=>185 | 37=>68 | 0=>0 | 85=>186 | 2=>2 | 168=>188 | 53=>224 | 175=>247 | 46=>175 | 210=>251 | 127=>199 | 145=>279 | 143=>277 | 21=>21 | 171=>223 | 173=>227 | 212=>269 | 51=>52 | 20=>20 | 213=>270 | 232=>283 | 233=>284 | 80=>154 | n=>n,fun | 15=>3 | 16=>4 | 17=>5 | 18=>6 | 19=>7 | n=>n⟩
theorem Tryz.Q6:Go.Proofs.Lays.n172 Tryz.prog Tryz.Eg:={
 mixed:=by kernel_rfl
 f129:= Tryz.func193.trans (congrArg some (by kernel_rfl))
 f171:= Tryz.func14.trans (congrArg some (by kernel_rfl))
 f172:= Tryz.func24.trans (congrArg some (by kernel_rfl))
 f205:= Tryz.func170.trans (congrArg some (by kernel_rfl))
 f243:= Tryz.func43.trans (congrArg some (by kernel_rfl))
 f244:= Tryz.func61.trans (congrArg some (by kernel_rfl))
 f245:= Tryz.func62.trans (congrArg some (by kernel_rfl))
 f246:= Tryz.func111.trans (congrArg some (by kernel_rfl))
 f247:= Tryz.func118.trans (congrArg some (by kernel_rfl))
 f279:= Tryz.func119.trans (congrArg some (by kernel_rfl))
 f280:= Tryz.func120.trans (congrArg some (by kernel_rfl))
 f281:= Tryz.func121.trans (congrArg some (by kernel_rfl))
 f282:= Tryz.func122.trans (congrArg some (by kernel_rfl))
 f283:= Tryz.func154.trans (congrArg some (by kernel_rfl))
 f284:= Tryz.func155.trans (congrArg some (by kernel_rfl))
 f285:= Tryz.func156.trans (congrArg some (by kernel_rfl))
 f286:= Tryz.func157.trans (congrArg some (by kernel_rfl))
 f287:= Tryz.func168.trans (congrArg some (by kernel_rfl))
 f316:= Tryz.func169.trans (congrArg some (by kernel_rfl))
 f317:= Tryz.func192.trans (congrArg some (by kernel_rfl))
 f318:= Tryz.func194.trans (congrArg some (by kernel_rfl))
 f319:= Tryz.func195.trans (congrArg some (by kernel_rfl))
 f320:= Tryz.func147.trans (congrArg some (by kernel_rfl))
 f321:= Tryz.func201.trans (congrArg some (by kernel_rfl))
 f322:= Tryz.func202.trans (congrArg some (by kernel_rfl))
 f337:= Tryz.func188.trans (congrArg some (by kernel_rfl))
 f338:= Tryz.func189.trans (congrArg some (by kernel_rfl))
 t0:= Tryz.underlying0
 a0:= Tryz.isAgg0
 z0:= Tryz.sizeOf0
 v0:= Tryz.zeroValue0
 t2:= Tryz.underlying2
 a2:= Tryz.isAgg2
 z2:= Tryz.sizeOf2
 v2:= Tryz.zeroValue2
 t3:= Tryz.underlying3
 a3:= Tryz.isAgg3
 z3:= Tryz.sizeOf3
 v3:= Tryz.zeroValue3
 t4:= Tryz.underlying4
 a4:= Tryz.isAgg4
 z4:= Tryz.sizeOf4
 v4:= Tryz.zeroValue4
 t5:= Tryz.underlying5
 a5:= Tryz.isAgg5
 z5:= Tryz.sizeOf5
 v5:= Tryz.zeroValue5
 t9:= Tryz.underlying9
 a9:= Tryz.isAgg9
 z9:= Tryz.sizeOf9
 v9:= Tryz.zeroValue9
 t20:= Tryz.underlying20
 a20:= Tryz.isAgg20
 z20:= Tryz.sizeOf20
 v20:= Tryz.zeroValue20
 t21:= Tryz.underlying21
 a21:= Tryz.isAgg21
 z21:= Tryz.sizeOf21
 v21:= Tryz.zeroValue21
 t37:= Tryz.underlying68
 a37:= Tryz.isAgg68
 z37:= Tryz.sizeOf68
 v37:= Tryz.zeroValue68
 t46:= Tryz.underlying175
 a46:= Tryz.isAgg175
 z46:= Tryz.sizeOf175
 v46:= Tryz.zeroValue175
 t51:= Tryz.underlying52
 a51:= Tryz.isAgg52
 z51:= Tryz.sizeOf52
 v51:= Tryz.zeroValue52
 t53:= Tryz.underlying224
 a53:= Tryz.isAgg224
 z53:= Tryz.sizeOf224
 v53:= Tryz.zeroValue224
 t75:= Tryz.underlying64
 a75:= Tryz.isAgg64
 z75:= Tryz.sizeOf64
 v75:= Tryz.zeroValue64
 t76:= Tryz.underlying65
 a76:= Tryz.isAgg65
 z76:= Tryz.sizeOf65
 v76:= Tryz.zeroValue65
 t85:= Tryz.underlying186
 a85:= Tryz.isAgg186
 z85:= Tryz.sizeOf186
 v85:= Tryz.zeroValue186
 t127:= Tryz.underlying199
 a127:= Tryz.isAgg199
 z127:= Tryz.sizeOf199
 v127:= Tryz.zeroValue199
 t143:= Tryz.underlying277
 a143:= Tryz.isAgg277
 z143:= Tryz.sizeOf277
 v143:= Tryz.zeroValue277
 t145:= Tryz.underlying279
 a145:= Tryz.isAgg279
 z145:= Tryz.sizeOf279
 v145:= Tryz.zeroValue279
 t167:= Tryz.underlying185
 a167:= Tryz.isAgg185
 z167:= Tryz.sizeOf185
 v167:= Tryz.zeroValue185
 t168:= Tryz.underlying188
 a168:= Tryz.isAgg188
 z168:= Tryz.sizeOf188
 v168:= Tryz.zeroValue188
 t171:= Tryz.underlying223
 a171:= Tryz.isAgg223
 z171:= Tryz.sizeOf223
 v171:= Tryz.zeroValue223
 t173:= Tryz.underlying227
 a173:= Tryz.isAgg227
 z173:= Tryz.sizeOf227
 v173:= Tryz.zeroValue227
 t175:= Tryz.underlying247
 a175:= Tryz.isAgg247
 z175:= Tryz.sizeOf247
 v175:= Tryz.zeroValue247
 t210:= Tryz.underlying251
 a210:= Tryz.isAgg251
 z210:= Tryz.sizeOf251
 v210:= Tryz.zeroValue251
 t212:= Tryz.underlying269
 a212:= Tryz.isAgg269
 z212:= Tryz.sizeOf269
 v212:= Tryz.zeroValue269
 t213:= Tryz.underlying270
 a213:= Tryz.isAgg270
 z213:= Tryz.sizeOf270
 t232:= Tryz.underlying283
 a232:= Tryz.isAgg283
 z232:= Tryz.sizeOf283
 v232:= Tryz.zeroValue283
 t233:= Tryz.underlying284
 a233:= Tryz.isAgg284
 z233:= Tryz.sizeOf284
 v233:= Tryz.zeroValue284
 g15:=by kernel_rfl
 g16:=by kernel_rfl
 g17:=by kernel_rfl
 g18:=by kernel_rfl
 g19:=by kernel_rfl}
def Tryz.Dc:Go.Shelf.Ren:=⟨fun | 157=>23 | 229=>59 | 199=>60 | 261=>117 | 311=>166 | 312=>167 | n=>n,fun | 9=>9 | 31=>27 | 3=>3 | 5=>5 | 4=>4 | 119=>123 | 0=>0 | 40=>125 | 152=>180 | 21=>21 | 154=>182 | 51=>52 | 141=>184 | 196=>239 | 193=>236 | 198=>242 | 49=>240 | 194=>237 | 201=>245 | 226=>274 | 46=>175 | 227=>275 | n=>n,fun | 0=>0 | 6=>1 | n=>n⟩
theorem Tryz.QG:Go.Proofs.Lays.n157 Tryz.prog Tryz.Dc:={
 mixed:=by kernel_rfl
 f157:= Tryz.func23.trans (congrArg some (by kernel_rfl))
 f199:= Tryz.func60.trans (congrArg some (by kernel_rfl))
 f229:= Tryz.func59.trans (congrArg some (by kernel_rfl))
 f261:= Tryz.func117.trans (congrArg some (by kernel_rfl))
 f311:= Tryz.func166.trans (congrArg some (by kernel_rfl))
 f312:= Tryz.func167.trans (congrArg some (by kernel_rfl))
 t0:= Tryz.underlying0
 a0:= Tryz.isAgg0
 z0:= Tryz.sizeOf0
 v0:= Tryz.zeroValue0
 t3:= Tryz.underlying3
 a3:= Tryz.isAgg3
 z3:= Tryz.sizeOf3
 v3:= Tryz.zeroValue3
 t4:= Tryz.underlying4
 a4:= Tryz.isAgg4
 z4:= Tryz.sizeOf4
 v4:= Tryz.zeroValue4
 t5:= Tryz.underlying5
 a5:= Tryz.isAgg5
 z5:= Tryz.sizeOf5
 v5:= Tryz.zeroValue5
 t9:= Tryz.underlying9
 a9:= Tryz.isAgg9
 z9:= Tryz.sizeOf9
 v9:= Tryz.zeroValue9
 t21:= Tryz.underlying21
 a21:= Tryz.isAgg21
 z21:= Tryz.sizeOf21
 v21:= Tryz.zeroValue21
 t31:= Tryz.underlying27
 a31:= Tryz.isAgg27
 z31:= Tryz.sizeOf27
 v31:= Tryz.zeroValue27
 t40:= Tryz.underlying125
 a40:= Tryz.isAgg125
 z40:= Tryz.sizeOf125
 v40:= Tryz.zeroValue125
 t46:= Tryz.underlying175
 a46:= Tryz.isAgg175
 z46:= Tryz.sizeOf175
 v46:= Tryz.zeroValue175
 t49:= Tryz.underlying240
 a49:= Tryz.isAgg240
 z49:= Tryz.sizeOf240
 v49:= Tryz.zeroValue240
 t51:= Tryz.underlying52
 a51:= Tryz.isAgg52
 z51:= Tryz.sizeOf52
 v51:= Tryz.zeroValue52
 t119:= Tryz.underlying123
 a119:= Tryz.isAgg123
 z119:= Tryz.sizeOf123
 t141:= Tryz.underlying184
 a141:= Tryz.isAgg184
 z141:= Tryz.sizeOf184
 v141:= Tryz.zeroValue184
 t152:= Tryz.underlying180
 a152:= Tryz.isAgg180
 z152:= Tryz.sizeOf180
 v152:= Tryz.zeroValue180
 t154:= Tryz.underlying182
 a154:= Tryz.isAgg182
 z154:= Tryz.sizeOf182
 v154:= Tryz.zeroValue182
 t193:= Tryz.underlying236
 a193:= Tryz.isAgg236
 z193:= Tryz.sizeOf236
 v193:= Tryz.zeroValue236
 t194:= Tryz.underlying237
 a194:= Tryz.isAgg237
 z194:= Tryz.sizeOf237
 v194:= Tryz.zeroValue237
 t196:= Tryz.underlying239
 a196:= Tryz.isAgg239
 z196:= Tryz.sizeOf239
 v196:= Tryz.zeroValue239
 t198:= Tryz.underlying242
 a198:= Tryz.isAgg242
 z198:= Tryz.sizeOf242
 v198:= Tryz.zeroValue242
 t201:= Tryz.underlying245
 a201:= Tryz.isAgg245
 z201:= Tryz.sizeOf245
 v201:= Tryz.zeroValue245
 t226:= Tryz.underlying274
 a226:= Tryz.isAgg274
 z226:= Tryz.sizeOf274
 v226:= Tryz.zeroValue274
 t227:= Tryz.underlying275
 a227:= Tryz.isAgg275
 z227:= Tryz.sizeOf275
 v227:= Tryz.zeroValue275
 g0:=by kernel_rfl
 g6:=by kernel_rfl}
end Go.Proofs
end
section
set_option maxRecDepth 100000
set_option maxHeartbeats 4000000
namespace Go.Proofs.YtibffijhebobmaaGreatDoor
open Go.AF
open Go.Proofs
theorem mxl: Tryz.prog.globalNamed "internal/bytealg.MaxLen" =some 2:=by kernel_rfl
theorem NG:(5,Lib.pow10Tab.map (PV.int .u64))∈oQ Tryz.prog:=by
 have e:(oQ Tryz.prog)[2]? =some (5,Lib.pow10Tab.map (PV.int .u64)):=by kernel_rfl
 exact Zh e
theorem PU:(7,EA.map (PV.int .u8))∈oQ Tryz.prog:=by
 have e:(oQ Tryz.prog)[1]? =some (7,EA.map (PV.int .u8)):=by kernel_rfl
 exact Zh e
theorem tH(n:Int)(h0:0<=n)(h1:n<10000000000000):Pure Tryz.prog 14 [.int .i64 n] (.str (sB (Lib.itoa n))):=
 Pure.w8 (us:=[.int .i64 n]) (fun w I vs h=>by
  obtain⟨u,us,rfl,h2,h3⟩:=h
  have h2:u= .int .i64 n:=h2
  have h3:us=[]:=h3
  rw[h2,h3]) fun w I hg=>(Any.strconv_Itoa Tryz.Lo n (by omega) (by omega) w (S9 (g:=5) hg NG (by kernel_rfl))).mono fun e w' ⟨h1,k,os,h2⟩=>⟨_,h1,fun _ _=>rfl,k,os,h2⟩
theorem vC{a b:ByteArray}:∀(w:World) (I:Nat->Prop) (vs:List Value),aR w I [.str a,.str b] vs->vs=[.string a,.string b]:=fun w I vs h=>by
 obtain⟨u0,Vd,rfl,k0,u1,Te,rfl,k1,k2⟩:=h
 have k0:u0= .string a:=k0
 have k1:u1= .string b:=k1
 have k2:Te=[]:=k2
 rw[k0,k1,k2]
theorem lS(s t:Bs)(hs:s.length<=9223372036854775807):Pure Tryz.prog 75 [.str (sB s),.str (sB t)] (.bool (t.isSuffixOf s)):=
 Pure.w8 (us:=[.string (sB s),.string (sB t)]) vC fun w I hg=>(Any.strings_HasSuffix Tryz.ON (sB s) (sB t) w (by rw[eX];exact hs)).mono fun e w' ⟨h1,h2⟩=>⟨_,h1,fun _ _=>by show Value.bool _=_;rw[dJ,dJ];rfl,0,#[],by rw[h2,Go.Sort.grow_empty];rfl⟩
theorem xL(s t:Bs)(hs:s.length<=9223372036854775807):Pure Tryz.prog 77 [.str (sB s),.str (sB t)] (.str (sB (Lib.trimSuffix s t))):=
 Pure.w8 (us:=[.string (sB s),.string (sB t)]) vC fun w I hg=>(Any.strings_TrimSuffix Tryz.Pq (sB s) (sB t) w (by rw[eX];exact hs)).mono fun e w' ⟨h1,h2⟩=>⟨_,h1,fun _ _=>by show Value.string _=_;rw[dJ,dJ];rfl,0,#[],by rw[h2,Go.Sort.grow_empty];rfl⟩
theorem zL(s:Bs)(c:UInt8):Pure Tryz.prog 132 [.str (sB s),.int .u8 (c.toNat:Int)] (.int .i64 (Lib.indexByte s c)):=
 Pure.w8 (us:=[.string (sB s),.int .u8 (c.toNat:Int)]) (fun w I vs h=>by
  obtain⟨u0,Vd,rfl,k0,u1,Te,rfl,k1,k2⟩:=h
  have k0:u0= .string (sB s):=k0
  have k1:u1= .int .u8 (c.toNat:Int):=k1
  have k2:Te=[]:=k2
  rw[k0,k1,k2]) fun w I hg=>(Any.strings_IndexByte Tryz.Qj (sB s) (c.toNat:Int) w).mono fun e w' ⟨h1,h2⟩=>⟨_,h1,fun _ _=>by
   show Value.int _ _=_
   rw[dJ,He,show c.toNat.toUInt8=c from by simp],0,#[],by rw[h2,Go.Sort.grow_empty];rfl⟩
theorem xS(w:World)(I:Nat->Prop):∀ ss:List ByteArray,aR w I (ss.map PV.str) (ss.map Value.string)
 | []=>rfl
 | x::xs=>⟨_,_,rfl,rfl,xS w I xs⟩
theorem Pure.KN{f:FuncId}{us:List Value}{args:List PV}{ss:List ByteArray}{t:TypeId}(cu:∀ w I vs,aR w I args vs->vs=us)(h:∀(w:World) (I:Nat->Prop),Je Tryz.prog w I->Calls Tryz.prog f us.toArray w fun e w'=>e= .returned (.slice (some ⟨w.heap.size,0,none⟩) ss.length ss.length)∧w'=w.alloc (.cells (ss.map Value.string).toArray t)):Pure Tryz.prog f args (.is (ss.map PV.str) ss.length):=by
 intro w I ρ vs hi hvs
 have e:=cu w I vs (ag.pure.1 hvs)
 subst e
 refine CallsIn.mono ((callsIn_wide (n:=0)).2 (h w I hi.gl)) ?_
 rintro e w' ⟨rfl,rfl⟩
 refine⟨_,.p _,fun b=>I b∨b=w.heap.size,ρ,[],rfl,⟨rfl,rfl⟩,Ext.gL hi _,hi.gL _,?_⟩
 refine .inr ⟨w.heap.size,0,ss.length,fun _=> .inr rfl,Ze _,rfl,?_⟩
 refine aT.nO (ss.map PV.str) (ss.map Value.string) 0 ?_ ?_
 ·exact xS _ _ ss
 ·intro j u hu
  have e:(w.alloc (.cells (ss.map Value.string).toArray t)).heap[w.heap.size]? =some (.cells (ss.map Value.string).toArray t):=Array.getElem?_push_size
  unfold World.cell?
  simp only[e,yy]
  simpa using hu
theorem Cf{c:UInt8}(ws:List Bs)(h0:0<ws.length)(h:∀ x∈ws,EW c x)(hs:(cA c ws).length<=1000000):Pure Tryz.prog 84 [.str (sB (cA c ws)),.str (sB [c]),.int .i64 0,.int .i64 (-1)] (.is ((ws.map sB).map PV.str) (ws.map sB).length):=by
 refine Pure.KN (us:=[.string (sB (cA c ws)),.string (sB [c]),.int .i64 0,.int .i64 (-1)]) (t:=9) (fun w I vs h=>by
  obtain⟨u0,Vd,rfl,k0,u1,Te,rfl,k1,u2,vs2,rfl,k2,u3,vs3,rfl,k3,k4⟩:=h
  have k0:u0= .string (sB (cA c ws)):=k0
  have k1:u1= .string (sB [c]):=k1
  have k2:u2= .int .i64 0:=k2
  have k3:u3= .int .i64 (-1):=k3
  have k4:vs3=[]:=k4
  rw[k0,k1,k2,k3,k4]) fun w I hg=> ?_
 have hsz:(sB (cA c ws)).size<=1000000:=by rw[eX];exact hs
 have hL:=Le ws h0 h
 have hcn:=N1 ws h0 h
 have hle:=Ey (c:=c) ws
 have k:=Any.strings_genSplit_core Tryz.PA (by kernel_rfl) (sB (cA c ws)) (sB [c]) 0 (-1) ws.length w (by omega) (by show 1<=1;decide) (Zv _)
  (fun x cc hx=>(Any.strings_Index_one Tryz.Pf x c _).mono fun e w' ⟨h1,h2⟩=>⟨by rw[h1];show _=Ending.returned (.int .i64 (Lib.index x.data.toList (sB [c]).data.toList));rw[dJ,Lib.index_one],h2⟩)
  ((Any.strings_Count_one Tryz.PD (sB (cA c ws)) c w).mono fun e w' ⟨h1,h2⟩=>⟨by rw[h1];show _=Ending.returned (.int .i64 ((Lib.count (sB (cA c ws)).data.toList [c]:Nat):Int));rw[Lib.count_one];rfl,h2⟩) (by decide) (by decide)
  (by rw[if_pos (by decide),hcn,eX];push_cast;omega)
 refine k.mono fun e w' ⟨h1,h2⟩=> ?_
 rw[hL] at h1 h2
 refine⟨?_,?_⟩
 ·rw[h1];simp
 ·rw[h2,show ws.length=(ws.map sB).length by simp,Lib.cellsOf_full];rfl
theorem Fm(ws:List Bs):PV.is ((ws.map sB).map PV.str) (ws.map sB).length=jA ws:=by
 unfold jA
 rw[Zo,OE]
 congr 1
 induction ws with
 | nil=>rfl
 | cons x xs ih=>rw[Zx,ZL,ih];rfl
theorem aaD:Go.Proofs.Builder.Extra Tryz.prog Tryz.tq where
 sizeBuilder:=by kernel_rfl
 liesBuilder:=by kernel_rfl
 t5:= Tryz.underlying5
 a5:=run_isAgg_plain Tryz.underlying5 rfl
 z5:= Tryz.sizeOf5
 v5:= Tryz.zeroValue5
 infoByte:=by kernel_rfl
 cellsByte:=by kernel_rfl
 sizeByte:=by kernel_rfl
 neB5:=by decide
theorem wV{w:World}{I:Nat->Prop}:∀(ss:List ByteArray) (b o:Nat),aT w I (ss.map PV.str) b o->∀(j:Nat) x,ss[j]? =some x->w.cell? ⟨b,o+j,none⟩=some (.string x)
 | [],_,_,_,j,x,h=>by simp at h
 | y::ss,b,o,⟨⟨u,h1,h2⟩,h3⟩,j,x,h=>by
  cases j with
  | zero=>
   have h2:u= .string y:=h2
   simp at h
   rw[<- h,<- h2];exact h1
  | succ j=>
   have:=wV ss b (o+1) h3 j x (by simpa using h)
   rwa [show o+1+j=o+(j+1) by omega] at this
theorem ov(ws:List Bs)(c:UInt8)(h0:0<ws.length)(hl:ws.length<=1000000)(hs:(cA c ws).length<=1000000):Pure Tryz.prog 134 [jA ws,.str (sB [c])] (.str (sB (cA c ws))):=by
 rw[<- Fm]
 intro w I ρ vs hi hvs
 obtain⟨u0,Vd,rfl,k0,u1,Te,rfl,k1,k2⟩:=ag.pure.1 hvs
 have k1:u1= .string (sB [c]):=k1
 have k2:Te=[]:=k2
 subst k1 k2
 have hlen:(ws.map sB).length=ws.length:=Zo ..
 rcases k0 with⟨_,h⟩ | ⟨b,o,cap,hI,hcap,rfl,eK⟩
 ·omega
 ·have hne:(ws.map sB).map PV.str≠[]:=by intro e;have:=congrArg List.length e;simp at this;rw[this] at h0;cases h0
  have hbI:=hI hne
  have hj:Lib.join ((ws.map sB).map (·.data.toList)) (sB [c]).data.toList=cA c ws:=by
   rw[dJ,OE,show((fun x:ByteArray=>x.data.toList)∘sB)=id from funext dJ,List.map_id,Nx]
  refine CallsIn.mono ((callsIn_wide (n:=0)).2 (Any.strings_Join Tryz.P8 aaD b o cap (ws.map sB) (sB [c]) w (wV _ _ _ eK) (hi.ib _ hbI) (by omega) hcap (by rw[hj];omega))) ?_
  rintro e w' ⟨rfl,hb⟩
  obtain⟨h1,h2⟩:=Ext.below hi hb
  refine⟨_,.p _,I,ρ,[],rfl,⟨rfl,rfl⟩,h1,h2,?_⟩
  show Value.string _=_
  rw[hj]
  rfl
end Go.Proofs.YtibffijhebobmaaGreatDoor
end
section
set_option maxRecDepth 100000
set_option maxHeartbeats 4000000
namespace Go.Proofs.YtibffijhebobmaaGreatDoor
open Go.AF
theorem u5(e:Int):Pure Tryz.prog 40 [.bool true,.int .i64 e] (.tuple []):=by
 refine Kf (N:=9) Tryz.func40 ?_
 iterate 5 refine af ?_
 refine aI.yl rfl ?_
 refine af ?_
 exact⟨.inl rfl,eT.none_ rfl⟩
theorem QE(e:Int):s9 Tryz.prog 40 [.bool false,.int .i64 e] (.iface 94 (.agg [.int .i64 e])):=by
 refine au.start (N:=9) Tryz.func40 rfl rfl Kn ?_
 iterate 5 refine af ?_
 refine aI.GQ rfl ?_
 iterate 3 refine af ?_
 refine Kc (aa.aA rfl rfl Ro) ?_
 refine aj.panic rfl rfl rfl ?_
 exact⟨_,rfl,rfl⟩
theorem de(b:Bool)(e:Int)(hb:b=true):Pure Tryz.prog 40 [.bool b,.int .i64 e] (.tuple []):=by subst hb;exact u5 e
theorem dc(b:Bool)(e:Int)(hb:b=false):s9 Tryz.prog 40 [.bool b,.int .i64 e] (.iface 94 (.agg [.int .i64 e])):=by subst hb;exact QE e
theorem jV(e:Int)(he:decide (e=0)=true):Pure Tryz.prog 95 [.int .i64 e] (.tuple []):=by
 refine Kf (N:=6) Tryz.func95 ?_
 iterate 4 refine af ?_
 refine aj.ct 5 (b:=(decide (e=0))) (de (decide (e=0)) e) (dc (decide (e=0)) e) rfl rfl rfl rfl rfl rfl rfl an (fun hb=> ?_) (fun hb=> ?_)
 ·rw[he] at hb
  cases hb
 refine af ?_
 exact⟨.inl rfl,eT.none_ rfl⟩
theorem nJ(e:Int)(he:decide (e=0)=false):s9 Tryz.prog 95 [.int .i64 e] (.iface 94 (.agg [.int .i64 e])):=by
 refine au.start (N:=6) Tryz.func95 rfl rfl Kn ?_
 iterate 4 refine af ?_
 refine aj.ct 5 (b:=(decide (e=0))) (de (decide (e=0)) e) (dc (decide (e=0)) e) rfl rfl rfl rfl rfl rfl rfl an (fun hb=> ?_) (fun hb=> ?_)
 ·exact⟨_,rfl,rfl⟩
 rw[he] at hb
 cases hb
theorem QB(l:List Int)(k:Nat)(hk:k=l.length)(h2:2<=l.length):Pure Tryz.prog 140 [.is (l.flatMap Di.cK) k] (.agg [.int .i64 (nn l 0),.int .i64 (nn l 1)]):=by
 subst hk
 refine Kf (N:=10) Tryz.func140 ?_
 iterate 5 refine af ?_
 refine aI.aB 7 mixed (by kernel_rfl) (by decide) ?_
 refine af ?_
 refine Kq (aa.bg (g:=Di.gt 0 l) (k:=0) (Di.aL _) rfl rfl rfl an dX rfl (fun _=>rfl) (by decide) (by omega)) ?_
 refine Kq (Kl (.p (.int .i64 (nn l 0)))) ?_
 refine af ?_
 refine Kq (aa.bg (g:=Di.gt 0 l) (k:=1) (Di.aL _) rfl rfl rfl an dX rfl (fun _=>rfl) (by decide) (by omega)) ?_
 refine Kq (Kl (.p (.int .i64 (nn l 1)))) ?_
 refine Kq (aa.build rfl an rfl rfl) ?_
 refine aE.nil ?_
 exact uj
theorem Ia(a b:Int):Pure Tryz.prog 142 [.int .i64 a,.int .i64 b] (.agg (bM a b).cells):=by
 refine Kf (N:=10) Tryz.func142 ?_
 iterate 14 refine af ?_
 exact Fin.one rfl (⟨_,_,_,rfl,an,rfl⟩)
theorem Q1(n k:Nat)(h0:0<n)(h:n<2^32)(hl:n&&& (2^64 - n)=2^k)(hk:k<64):Pure Tryz.prog 189 [.int .u64 (n:Int)] (.int .i64 ((k:Nat):Int)):=by
 have hT:(EA.map (PV.int .u8))[(((2^k*285870213051353865%18446744073709551616 / 2^58:Nat):Int)).toNat*1]? =some (.int .u8 ((k:Nat):Int)):=by rw[Ku,He,Zt,N6 k hk];rfl
 refine Kf (N:=14) Tryz.func189 ?_
 iterate 10 refine af ?_
 refine Ki (fun hc0=> ?_) fun hc0=> ?_
 ·exfalso
  simp at hc0
  omega
 ·iterate 5 refine af ?_
  refine Kc (aa.neg (m:=((2^64 - n:Nat):Int)) rfl rfl ?_) ?_
  ·exact Tl h0 h
  refine Kc (aa.o8 n (2^64 - n) rfl rfl rfl (by first | (show _<=(9223372036854775807:Int);omega) | (show _<=(4294967295:Int);omega) | (show _<=(18446744073709551615:Int);omega) | (show _<=(255:Int);omega) | (show _<=(65535:Int);omega)) (by first | decide | (show _<=(9223372036854775807:Int);omega) | (show _<=(4294967295:Int);omega) | (show _<=(18446744073709551615:Int);omega) | (show _<=(255:Int);omega) | (show _<=(65535:Int);omega))) ?_
  rw[hl]
  refine Kc (aa.mul (m:=((2^k*285870213051353865%18446744073709551616:Nat):Int)) rfl rfl rfl ?_) ?_
  ·exact UJ k
  refine Kc (aa.xG (2^k*285870213051353865%18446744073709551616) 58 rfl rfl rfl (by first | decide | (show _<=(9223372036854775807:Int);omega) | (show _<=(4294967295:Int);omega) | (show _<=(18446744073709551615:Int);omega) | (show _<=(255:Int);omega) | (show _<=(65535:Int);omega))) ?_
  refine Kc (aa.yB (Sc:=EA.map (PV.int .u8)) PU rfl rfl Xe Vp (by omega) (by omega)) ?_
  exact BU
theorem MG(n k:Nat)(h0:0<n)(h:n<2^32)(hl:n&&& (2^64 - n)=2^k)(hk:k<64):Pure Tryz.prog 147 [.int .u64 (n:Int)] (.int .i64 ((k:Nat):Int)):=by
 refine Kf (N:=8) Tryz.func147 ?_
 iterate 5 refine af ?_
 refine aI.yl rfl ?_
 iterate 4 refine af ?_
 refine Kc (Kp (Q1 n k h0 h hl hk)) ?_
 exact cQ
theorem o9(n:Nat)(hn:n<2^24):Pure Tryz.prog 96 [.int .i64 (n:Int)] (Di.cg (iO n)):=by
 have oA:(2:Nat)^24=16777216:=by decide
 have h32:(2:Nat)^32=4294967296:=by decide
 have aac:n<2^32:=by omega
 refine Kf (N:=19) Tryz.func96 ?_
 iterate 12 refine af ?_
 refine Kc (aa.dM rfl rfl (by rw[AI];rfl) C5 (mS ?_)) ?_
 ·omega
 iterate 3 refine af ?_
 refine aI.iK [2,18] (fun g=>[(4,.p (.int .u64 ((Rx.pS n g:Nat):Int))),(3,kL 0 (bl n g).length)]) (fun g=>[dL (((bl n g).flatMap Di.cK).map .p) 3 (bl n g).length]) (fun g=>g<=32) (fun g=>32 - g) 0 (Zv _) (To.pad.trans (To.sub (Sub.Mc (Sub.cons (by show some (V.p (.int .u64 ((n:Nat):Int)))=_;rw[Rx.HF]) (Sub.cons rfl Sub.nil))))) (fun p hp=> ?_)
 have hle:=Rx.RI n p
 iterate 6 refine af ?_
 refine Ki (fun hc0=> ?_) fun hc0=> ?_
 ·have hne:Rx.pS n p≠0:=by intro h;rw[h] at hc0;simp at hc0
  obtain⟨k,hpk,TS,hlow,Uq,MN⟩:=Rx.GP aac hp hne
  iterate 6 refine af ?_
  refine Kc (Kp (MG (Rx.pS n p) k (by omega) (by omega) (Xa hne (by omega) hlow) (by omega))) ?_
  refine Kc (aa.aQ rfl an (by decide) rfl rfl rfl) ?_
  refine Kc (aa.kn rfl rfl rfl an an rfl ?_ rfl (by decide) rfl an (by decide) ?_) ?_
  ·exact qh
  ·have:=SZ n p;show(2*((bl n p).length+1)+192)*8<=281474976710656;omega
  iterate 5 refine af ?_
  refine Kc (aa.fE (m:=((Rx.pS n p - 1:Nat):Int)) rfl rfl rfl ((mS ?_).trans ?_)) ?_
  ·omega
  ·omega
  refine Kc (aa.o8 (Rx.pS n p) (Rx.pS n p - 1) rfl rfl rfl (by first | (show _<=(9223372036854775807:Int);omega) | (show _<=(4294967295:Int);omega) | (show _<=(18446744073709551615:Int);omega) | (show _<=(255:Int);omega) | (show _<=(65535:Int);omega)) (by first | decide | (show _<=(9223372036854775807:Int);omega) | (show _<=(4294967295:Int);omega) | (show _<=(18446744073709551615:Int);omega) | (show _<=(255:Int);omega) | (show _<=(65535:Int);omega))) ?_
  iterate 2 refine af ?_
  refine⟨k+1,?_,?_,?_⟩
  ·show k+1<=32
   omega
  ·show 32 - (k+1)<32 - p
   omega
  have V0:(bl n (k+1)).length=(bl n p).length+1:=by unfold bl;rw[MN];simp
  have eL:(bl n (k+1)).flatMap Di.cK=(bl n p).flatMap Di.cK++[.int .i64 (k:Int)]:=by unfold bl;rw[MN];simp[Di.cK]
  rw[V0,eL]
  refine To.done [1] rfl (Sub.cons (by show some (V.p (.int .u64 _))=_;rw[Uq]) KS) ?_
  show[ai.row (bq _ (_++_)) _]=[ai.row _ _]
  rw[bA,aX,ZG]
  rfl
 ·have hz:Rx.pS n p=0:=by have h:((Rx.pS n p:Nat):Int)=0:=(by simpa using hc0);omega
  have hall:=Rx.Gt hp hz
  refine aI.to (To.WM 3 0 (bl n p).length (xs:=(bl n p).flatMap Di.cK) rfl rfl (fun h=>by rw[US.1 h];rfl)) ?_
  refine aI.exit ?_
  iterate 6 refine af ?_
  refine Fin.gW rfl rfl ?_
  rw[J0 hn,hall]
  rfl
theorem yR(s:Bs)(hs:s.length<=1000000):au Tryz.prog 110 [.p (.str (sB s))] [] (fun v H2=>gP s∧v= .p (.int .i64 (gv s))∧H2=[]) (fun y H2=>¬ gP s∧y=(.iface 94 (.agg [.int .i64 8]))∧H2=[]):=by
 refine au.start (N:=44) Tryz.func110 rfl rfl Kn ?_
 iterate 7 refine af ?_
 refine Kc (aa.DR s [] rfl rfl rfl) ?_
 refine af ?_
 refine Kg 8 7 0 rfl (fun h=>(aa.move rfl rfl)) ?_
 refine Kh 9 7 8 rfl rfl rfl rfl (fun h=>(aa.lY rfl rfl Qh)) ?_
 refine Kh 10 7 9 rfl rfl rfl rfl (fun h=>(aa.leq rfl rfl rfl)) ?_
 refine Kc (aa.gG rfl rfl rfl ?_) ?_
 ·exact aC
 refine af ?_
 refine Kg 13 12 0 rfl (fun h=>(aa.move rfl rfl)) ?_
 refine Kh 14 12 13 rfl rfl rfl rfl (fun h=>(aa.LN s [48] rfl rfl rfl)) ?_
 refine Kh 15 12 14 rfl rfl rfl rfl (fun h=>(aa.move rfl rfl)) ?_
 refine Kg 16 15 0 rfl (fun h=>(aa.move rfl rfl)) ?_
 refine Kh 17 15 16 rfl rfl rfl rfl (fun h=>(aa.WY s 0 (Di.gt 0 s 0) rfl rfl rfl an (by have h2:=(Bool.and_eq_true_iff.1 h).1;have h3:=(Bool.and_eq_true_iff.1 (eq_of_beq h2)).1;have h4:s≠[]:=(by simpa using h3);have h5:=List.length_pos_iff.2 h4;rw[Zb h5,Di.aL 0 0 h5]))) ?_
 refine Kh 18 15 17 rfl rfl rfl rfl (fun h=>(aa.neq rfl rfl rfl)) ?_
 refine aj.g 19 12 rfl rfl rfl rfl rfl rfl rfl [(15,_),(18,_)] (fun h=>And.intro (.inr ⟨_,rfl,h⟩) (And.intro (.inl rfl) (trivial))) (fun h=>(aa.pG rfl rfl rfl ?_)) ?_
 ·exact aC
 refine Kc (aa.gG rfl rfl rfl ?_) ?_
 ·exact aC
 refine aj.ct 21 (b:=_) (de _ 8) (dc _ 8) rfl rfl rfl rfl rfl rfl rfl an (fun hb=> ?_) (fun hb=> ?_)
 ·exact⟨_,rfl,(Xc hb).2 rfl,rfl,rfl⟩
 have hy:=(Xc hb).1 rfl
 have Y4:=hy.2.1
 iterate 5 refine af ?_
 refine Kc (aa.isR (aa.KU s rfl rfl an an) (Gw s)) ?_
 iterate 4 refine af ?_
 refine aI.iK [23,24,43] (fun g=>[(25,.p (.int .i64 ((g:Nat):Int))),(2,.p (.int .i64 ((oE (s.take g):Nat):Int)))]) (fun g=>[]) (fun g=>g<=s.length∧∀ j,j<g->qq (Di.gt 0 s j)=true) (fun g=>s.length - g) 0 ⟨Zv _,fun j hj=>absurd hj (by omega)⟩ (To.sub (Sub.Mc (Sub.cons rfl (Sub.cons rfl (Sub.nil))))) (fun i ⟨xp,mV⟩=> ?_)
 iterate 5 refine af ?_
 refine Ki (fun hc0=> ?_) fun hc0=> ?_
 ·have hk0:i<s.length:=by have h:=Zm hc0;omega
  have hb9:=(Di.gt 0 s i).toNat_lt
  iterate 5 refine af ?_
  refine Kc (aa.bg (g:=Di.gt 0 s) (Di.aL _) rfl rfl rfl an aa6 rfl (fun _=>rfl) (by decide) hk0) ?_
  refine Kc (Kl (.p (.int .u8 (((Di.gt 0 s i)).toNat:Int)))) ?_
  iterate 7 refine af ?_
  refine Kg 32 31 4 rfl (fun h=>(aa.move rfl rfl)) ?_
  refine Kh 33 31 32 rfl rfl rfl rfl (fun h=>(aa.leq rfl rfl rfl)) ?_
  refine Kc (aa.gG rfl rfl rfl ?_) ?_
  ·exact aC
  refine aj.ct 35 (b:=_) (de _ 8) (dc _ 8) rfl rfl rfl rfl rfl rfl rfl an (fun gZ=> ?_) (fun gZ=> ?_)
  ·exact⟨_,rfl,Pb hk0 (Om gZ),rfl,rfl⟩
  have YP:=Om gZ
  have hdd:=xb YP
  have hvs:=CI hk0
  have hv:=BC (s:=s) (i:=i) (by omega) Y4 mV
  iterate 3 refine af ?_
  refine Kc (aa.mul (m:=((10*oE (s.take i):Nat):Int)) rfl rfl rfl ((aG ?_).trans ?_)) ?_
  ·omega
  ·omega
  refine af ?_
  refine Kc (aa.fE (m:=((((Di.gt 0 s i)).toNat - 48:Nat):Int)) rfl rfl rfl ((aaY ?_).trans ?_)) ?_
  ·omega
  ·omega
  refine Kc (aa.dM rfl rfl (by rw[un5];rfl) AI (aG ?_)) ?_
  ·omega
  refine Kc (aa.add (m:=((oE (s.take (i+1)):Nat):Int)) rfl rfl rfl ((aG ?_).trans ?_)) ?_
  ·omega
  ·omega
  iterate 3 refine af ?_
  refine Kc (aa.add rfl rfl rfl (aG ?_)) ?_
  ·omega
  iterate 2 refine af ?_
  refine⟨i+1,?_,?_,?_⟩
  ·exact⟨hk0,fun j hj=>by rcases On.1 hj with h | rfl;exact mV j h;exact YP⟩
  ·omega
  exact kU
 ·have hi2:i=s.length:=by have h:=Zs hc0;omega
  subst hi2
  have hC:=Tr hy mV
  have hyes:=tR hC
  refine aI.exit ?_
  iterate 6 refine af ?_
  refine iy.one (v:= .p (.int .i64 ((oE (s.take s.length):Nat):Int))) rfl rfl ⟨hC,?_,rfl⟩
  unfold gv
  rw[hyes,ZS]
  rfl
instance (s:Bs):Decidable (gP s):=by unfold gP;infer_instance
theorem Er(s:Bs)(hs:s.length<=1000000)(h:decide (gP s)=true):Pure Tryz.prog 110 [.str (sB s)] (.int .i64 (gv s)):=
 ((yR s hs).mono (Vu:=fun v H2=>v= .p (.int .i64 (gv s))∧H2=[]) (XD:=fun _ _=>False) (fun v H2 ⟨_,h1,h2⟩=>⟨h1,h2⟩) (fun y H2 ⟨h1,_⟩=>h1 (Zm h))).toC (fun _ _ h=>h)
theorem Ny(s:Bs)(hs:s.length<=1000000)(h:decide (gP s)=false):s9 Tryz.prog 110 [.str (sB s)] (.iface 94 (.agg [.int .i64 8])):=
 (yR s hs).mono (fun v H2 ⟨h1,_⟩=>Zs h h1) (fun y H2 ⟨_,h1,_⟩=>h1)
def iI.v:iI->PV
 | .str w=> .iface 9 (.str (sB w))
 | .num k=> .iface 3 (.int .i64 k)
 | .Fy l=> .iface 35 (Di.cg l)
def iI.v1(p:iI):List PV:=[p.v]
def V3(l:List iI):PV:= .is (l.flatMap iI.v1) l.length
theorem aaC(p:iI):GW Tryz.prog 9 p.v (.tuple [.str (sB p.sV),.bool p.Ov]):=by
 cases p with
 | str l=>exact⟨_,_,rfl,.inl ⟨rfl,rfl⟩⟩
 | num i=>exact⟨_,_,rfl,.inr ⟨rfl,_,an,rfl⟩⟩
 | Fy s=>exact⟨_,_,rfl,.inr ⟨rfl,_,an,rfl⟩⟩
theorem aaR(p:iI):GW Tryz.prog 3 p.v (.tuple [.int .i64 p.nV,.bool p.YC]):=by
 cases p with
 | str l=>exact⟨_,_,rfl,.inr ⟨rfl,_,an,rfl⟩⟩
 | num i=>exact⟨_,_,rfl,.inl ⟨rfl,rfl⟩⟩
 | Fy s=>exact⟨_,_,rfl,.inr ⟨rfl,_,an,rfl⟩⟩
theorem aaM(p:iI):GW Tryz.prog 35 p.v (.tuple [p.lV,.bool p.Yz]):=by
 cases p with
 | str l=>exact⟨_,_,rfl,.inr ⟨rfl,_,an,rfl⟩⟩
 | num i=>exact⟨_,_,rfl,.inr ⟨rfl,_,an,rfl⟩⟩
 | Fy s=>exact⟨_,_,rfl,.inl ⟨rfl,rfl⟩⟩
theorem Yi{p:iI}(h:p.Ov=true):p= .str p.sV:=by cases p <;> first | rfl | cases h
theorem Rk{p:iI}(h:p.YC=true):p= .num p.nV:=by cases p <;> first | rfl | cases h
theorem Wv{p:iI}(h:p.Yz=true):∃ l,p= .Fy l:=by cases p <;> first | exact⟨_,rfl⟩ | cases h
theorem PX{p:iI}(h1:p.Ov=false)(h2:p.YC=false)(h3:p.Yz=false):False:=by cases p <;> simp_all [iI.Ov,iI.YC,iI.Yz]
theorem pL(s:Bs)(hs:s.length<=1000000):Pure Tryz.prog 38 [.str (sB s),.str (sB [32])] (jA (bT s)):=by
 have hj:cA 32 (bT s)=s:=vA 32 s []
 have hnb:∀ x∈bT s,EW 32 x:=Ao 32 s [] (fun y hy=>by cases hy)
 have hg:=Cf (bT s) (rY s) hnb (by rw[hj];exact hs)
 rw[hj,Fm] at hg
 refine Kf (N:=8) Tryz.func38 ?_
 iterate 8 refine af ?_
 refine Kc (Kp (hg)) ?_
 exact cQ
theorem c9(ps:List iI)(h0:0<(jk ps).length)(hn:ps.length<=50)(hok:∀ p∈ps,p.ok):Pure Tryz.prog 78 [V3 ps] (.str (sB (cA 32 (jk ps)))):=by
 have X0:=GH hok
 have hwB:=VT hok
 refine Kf (N:=51) Tryz.func78 ?_
 iterate 16 refine af ?_
 refine aI.iK [2,11,12,49,50] (fun g=>[(13,.p (.int .i64 ((g:Nat):Int))),(3,kL 0 (jk (ps.take g)).length)]) (fun g=>[dL ((((jk (ps.take g))).flatMap lG).map .p) 9 ((jk (ps.take g))).length]) (fun g=>g<=ps.length) (fun g=>ps.length - g) 0 (Zv _) (To.pad.trans (To.sub (Sub.Mc (Sub.cons rfl (Sub.cons rfl Sub.nil))))) (fun i hg=> ?_)
 iterate 5 refine af ?_
 refine Ki (fun hc0=> ?_) fun hc0=> ?_
 ·have hk0:i<ps.length:=by have h:=Zm hc0;omega
  have YS:=hok _ (Di.bH (.str []) hk0)
  have hwi:=Nd ps i
  iterate 5 refine af ?_
  refine Kc (aa.bg (g:=Di.gt (.str []) ps) (Di.aL _) rfl rfl rfl an XB rfl (fun _=>rfl) (by decide) hk0) ?_
  refine Kc (Kl (.p (Di.gt (.str []) ps i).v)) ?_
  iterate 9 refine af ?_
  refine Kc (aa.YK rfl rfl lI (aaC _)) ?_
  iterate 3 refine af ?_
  refine Ki (fun c8=> ?_) fun c8=> ?_
  ·iterate 7 refine af ?_
   refine Kc (aa.aQ rfl an (by decide) rfl rfl rfl) ?_
   refine Kc (aa.kn rfl rfl rfl an an rfl ?_ rfl (by decide) rfl an (by decide) ?_) ?_
   ·exact qh
   ·(try simp only[Zd,Zo]);show(2*(_+1)+192)*16<=281474976710656;omega
   iterate 3 refine af ?_
   refine Kc (aa.add rfl rfl rfl (aG ?_)) ?_
   ·omega
   iterate 2 refine af ?_
   refine⟨i+1,?_,?_,?_⟩
   ·exact hk0
   ·omega
   have eW:(jk (ps.take (i+1)))=(jk (ps.take i))++[(Di.gt (.str []) ps i).sV]:=by rw[y7 hk0];(conv=>lhs;rw[Yi c8]);rfl
   have V0:((jk (ps.take (i+1)))).length=((jk (ps.take i))).length+1:=by rw[eW,Zd];rfl
   have eL:((jk (ps.take (i+1)))).flatMap lG=((jk (ps.take i))).flatMap lG++lG (Di.gt (.str []) ps i).sV:=by rw[eW,JP];simp
   exact ua
  ·iterate 2 refine af ?_
   refine Kc (aa.YK rfl rfl j3 (aaR _)) ?_
   iterate 3 refine af ?_
   refine Ki (fun mu=> ?_) fun mu=> ?_
   ·have hkn:0<=(Di.gt (.str []) ps i).nV∧(Di.gt (.str []) ps i).nV<10000000000000:=by rw[Rk mu] at YS;exact YS
    iterate 7 refine af ?_
    refine Kc (Kp (tH (Di.gt (.str []) ps i).nV (by omega) (by omega))) ?_
    refine Kc (aa.aQ rfl an (by decide) rfl rfl rfl) ?_
    refine Kc (aa.kn rfl rfl rfl an an rfl ?_ rfl (by decide) rfl an (by decide) ?_) ?_
    ·exact qh
    ·(try simp only[Zd,Zo]);show(2*(_+1)+192)*16<=281474976710656;omega
    iterate 3 refine af ?_
    refine Kc (aa.add rfl rfl rfl (aG ?_)) ?_
    ·omega
    iterate 2 refine af ?_
    refine⟨i+1,?_,?_,?_⟩
    ·exact hk0
    ·omega
    have eW:(jk (ps.take (i+1)))=(jk (ps.take i))++[(Lib.itoa (Di.gt (.str []) ps i).nV)]:=by rw[y7 hk0];(conv=>lhs;rw[Rk mu]);rfl
    have V0:((jk (ps.take (i+1)))).length=((jk (ps.take i))).length+1:=by rw[eW,Zd];rfl
    have eL:((jk (ps.take (i+1)))).flatMap lG=((jk (ps.take i))).flatMap lG++lG (Lib.itoa (Di.gt (.str []) ps i).nV):=by rw[eW,JP];simp
    exact ua
   ·iterate 2 refine af ?_
    refine Kc (aa.YK rfl rfl Gx (aaM _)) ?_
    iterate 3 refine af ?_
    refine Ki (fun rP=> ?_) fun rP=> ?_
    ·obtain⟨l,el⟩:=Wv rP
     rw[show(Di.gt (.str []) ps i).lV=Di.cg l by rw[el];rfl]
     have hlo:l.length<=100∧∀ k∈l,0<=k∧k<10000000000000:=by rw[el] at YS;exact YS
     iterate 11 refine af ?_
     refine aI.iK [2,5,6,7,8,11,12,13,14,15,16,17,18,19,20,21,22,23,24,25,26,27,28,29,30,31,32,33,34,35,36,37,48,49,50] (fun g=>[(38,.p (.int .i64 ((g:Nat):Int))),(3,kL 0 (jk (ps.take i)++(l.take g).map Lib.itoa).length)]) (fun g=>[dL ((((jk (ps.take i)++(l.take g).map Lib.itoa)).flatMap lG).map .p) 9 ((jk (ps.take i)++(l.take g).map Lib.itoa)).length]) (fun g=>g<=l.length) (fun g=>l.length - g) 0 (Zv _) (To.xj (To.sub (Sub.Mc (Sub.cons rfl (Sub.cons (by rw[Ml,xo,ZU];rfl) Sub.nil)))) (by rw[Ml,xo,ZU])) (fun j hj=> ?_)
     iterate 5 refine af ?_
     refine Ki (fun Hp=> ?_) fun Hp=> ?_
     ·have W3:j<l.length:=by have h:=Zm Hp;omega
      have hkj:=hlo.2 _ (Di.bH 0 W3)
      have hlt:(l.take j).length<=j:=List.length_take_le j l
      iterate 5 refine af ?_
      refine Kc (aa.bg (g:=Di.gt 0 l) (k:=j) (Di.aL _) rfl rfl rfl an dX rfl (fun _=>rfl) (by decide) W3) ?_
      refine Kc (Kl (.p (.int .i64 (Di.gt 0 l j)))) ?_
      iterate 5 refine af ?_
      refine Kc (Kp (tH (Di.gt 0 l j) (by omega) (by omega))) ?_
      refine Kc (aa.aQ rfl an (by decide) rfl rfl rfl) ?_
      refine Kc (aa.kn rfl rfl rfl an an rfl ?_ rfl (by decide) rfl an (by decide) ?_) ?_
      ·exact qh
      ·(try simp only[Zd,Zo]);show(2*(_+1)+192)*16<=281474976710656;omega
      iterate 3 refine af ?_
      refine Kc (aa.add (m:=((j+1:Nat):Int)) rfl rfl rfl ((aG ?_).trans ?_)) ?_
      ·omega
      ·omega
      iterate 2 refine af ?_
      refine⟨j+1,?_,?_,?_⟩
      ·exact W3
      ·omega
      have eW:(jk (ps.take i)++(l.take (j+1)).map Lib.itoa)=(jk (ps.take i)++(l.take j).map Lib.itoa)++[(Lib.itoa (Di.gt 0 l j))]:=by rw[ZX W3,Di.aL 0 j W3,ZG,<- ZH];rfl
      have V0:((jk (ps.take i)++(l.take (j+1)).map Lib.itoa)).length=((jk (ps.take i)++(l.take j).map Lib.itoa)).length+1:=by rw[eW,Zd];rfl
      have eL:((jk (ps.take i)++(l.take (j+1)).map Lib.itoa)).flatMap lG=((jk (ps.take i)++(l.take j).map Lib.itoa)).flatMap lG++lG (Lib.itoa (Di.gt 0 l j)):=by rw[eW,JP];simp
      exact ua
     ·have hj2:j=l.length:=by have h:=Zs Hp;omega
      subst hj2
      refine aI.exit ?_
      refine af ?_
      refine Kc (aa.add rfl rfl rfl (aG ?_)) ?_
      ·omega
      iterate 2 refine af ?_
      refine⟨i+1,?_,?_,?_⟩
      ·exact hk0
      ·omega
      have eP:jk (ps.take (i+1))=jk (ps.take i)++(l.take l.length).map Lib.itoa:=by rw[y7 hk0,el,ZS];rfl
      rw[eP]
      exact To.sub KS
    ·exact(PX c8 mu rP).elim
 ·have hi2:i=ps.length:=by have h:=Zs hc0;omega
  subst hi2
  refine aI.to (To.WM 3 0 (jk (ps.take ps.length)).length (xs:=(jk (ps.take ps.length)).flatMap lG) rfl rfl (fun h=>by rw[US.1 h];rfl)) ?_
  rw[ZS]
  refine aI.exit ?_
  iterate 3 refine af ?_
  refine Kc (Kp (ov (jk ps) 32 h0 (by omega) (by have:=N3 (c:=32) _ hwB;omega))) ?_
  exact jx
def uM(ws:List Bs):List (List V):=ws.map fun w=>[.p (.int .i64 (gv w))]
theorem Ip{ws:List Bs}{i:Nat}(h:i<ws.length):(uM ws)[i]? =some [V.p (.int .i64 (gv (Di.gt [] ws i)))]:=by
 unfold uM
 rw[Zt,Zb h,Di.aL [] i h];rfl
theorem wH(ws:List Bs):Pure Tryz.prog 42 [jA ws] (.func (.func 109) [] [.ip [jA ws] 0]):=by
 refine Kf (N:=4) Tryz.func42 ?_
 exact uf
theorem M3(ws:List Bs)(hl:ws.length<=1000000)(hw:∀ w∈ws,w.length<=1000000)(hC:∀ w∈ws,gP w):K3 Tryz.prog 109 (fun y=>[y,.p (.ip [jA ws] 0)]) (uM ws):=by
 intro l κ nn inv fin hκ Si Fu hb h0 vB
 refine jU.gN (N:=17) Tryz.func109 rfl rfl Kn ?_
 iterate 2 refine af ?_
 refine Kc (Kl (.p (jA ws))) ?_
 iterate 4 refine af ?_
 refine aI.sX [4,7,8,9,10,11,12,13,14,15,16] (fun g=>[(7,.p (.int .i64 ((g.1:Nat):Int)))]) (fun g=>g.2) (fun g=>g.1<=ws.length∧inv g.1 g.2) (fun g=>ws.length - g.1) (0,h0) ⟨Zv _,vB⟩ (To.sub (Sub.RA (Sub.cons rfl Sub.nil))) (fun g hg=> ?_)
 obtain⟨i,No⟩:=g
 obtain⟨hle,hinv⟩:=hg
 dsimp only at hle hinv ⊢
 iterate 5 refine af ?_
 refine Ki (fun hc0=> ?_) fun hc0=> ?_
 ·have hk0:i<ws.length:=by have h:=Zm hc0;omega
  have hm:=Di.bH [] hk0
  iterate 5 refine af ?_
  refine Kc (aa.bg (g:=Di.gt [] ws) (k:=i) (Di.aL _) rfl rfl rfl an xy rfl (fun _=>rfl) (by decide) hk0) ?_
  refine Kc (Kl (.p (.str (sB (Di.gt [] ws i))))) ?_
  iterate 6 refine af ?_
  refine Kc (Kp (Er (Di.gt [] ws i) (hw _ hm) (decide_eq_true (hC _ hm)))) ?_
  refine aj.yield 14 rfl rfl rfl rfl rfl rfl (hb _ _ _ hinv (Ip hk0)) ?_
  intro b2 h2 Cz
  iterate 2 refine af ?_
  refine Ki (fun c8=> ?_) fun c8=> ?_
  ·have gZ:b2=false:=by simpa using c8
   subst gZ
   refine af ?_
   exact⟨.inr rfl,_,eT.none_ rfl,.inr (by rwa [if_neg (by decide)] at Cz)⟩
  ·have gZ:b2=true:=by simpa using c8
   subst gZ
   iterate 2 refine af ?_
   refine Kc (aa.add (m:=((i+1:Nat):Int)) rfl rfl rfl ((aG ?_).trans ?_)) ?_
   ·omega
   ·omega
   iterate 2 refine af ?_
   refine⟨(i+1,h2),?_,?_,?_⟩
   ·exact⟨hk0,by rwa [if_pos rfl] at Cz⟩
   ·show ws.length - (i+1)<ws.length - i
    omega
   exact To.sub KS
 ·have hi2:i=ws.length:=by have h:=Zs hc0;omega
  subst hi2
  refine aI.exit ?_
  exact⟨.inl rfl,_,eT.none_ rfl,.inl (by unfold uM;rw[Zo];exact hinv)⟩
theorem IV(ws:List Bs)(hl:ws.length<=1000000)(hw:∀ w∈ws,w.length<=1000000)(hC:¬ ∀ w∈ws,gP w):R7 Tryz.prog 109 (fun y=>[y,.p (.ip [jA ws] 0)]) (uM ws) (.iface 94 (.agg [.int .i64 8])):=by
 intro l κ nn inv hκ Si hb h0 vB
 refine zQ.gN (N:=17) Tryz.func109 rfl rfl Kn ?_
 iterate 2 refine af ?_
 refine Kc (Kl (.p (jA ws))) ?_
 iterate 4 refine af ?_
 refine aI.sX [4,7,8,9,10,11,12,13,14,15,16] (fun g=>[(7,.p (.int .i64 ((g.1:Nat):Int)))]) (fun g=>g.2) (fun g=>g.1<=ws.length∧inv g.1 g.2∧∀ j,j<g.1->gP (Di.gt [] ws j)) (fun g=>ws.length - g.1) (0,h0) ⟨Zv _,vB,fun j hj=>absurd hj (by omega)⟩ (To.sub (Sub.RA (Sub.cons rfl Sub.nil))) (fun g hg=> ?_)
 obtain⟨i,No⟩:=g
 obtain⟨hle,hinv,hall⟩:=hg
 dsimp only at hle hinv hall ⊢
 iterate 5 refine af ?_
 refine Ki (fun hc0=> ?_) fun hc0=> ?_
 ·have hk0:i<ws.length:=by have h:=Zm hc0;omega
  have hm:=Di.bH [] hk0
  iterate 5 refine af ?_
  refine Kc (aa.bg (g:=Di.gt [] ws) (k:=i) (Di.aL _) rfl rfl rfl an xy rfl (fun _=>rfl) (by decide) hk0) ?_
  refine Kc (Kl (.p (.str (sB (Di.gt [] ws i))))) ?_
  iterate 6 refine af ?_
  refine aj.ct 13 (b:=(decide (gP (Di.gt [] ws i)))) (Er (Di.gt [] ws i) (hw _ hm)) (Ny (Di.gt [] ws i) (hw _ hm)) rfl rfl rfl rfl rfl rfl rfl an (fun hf=> ?_) (fun hf=> ?_)
  ·exact⟨rfl,_,hinv⟩
  refine aj.yield 14 rfl rfl rfl rfl rfl rfl (hb _ _ _ hinv (Ip hk0)) ?_
  intro b2 h2 Cz
  iterate 2 refine af ?_
  refine Ki (fun c8=> ?_) fun c8=> ?_
  ·rw[Cz.1] at c8
   cases c8
  ·iterate 2 refine af ?_
   refine Kc (aa.add (m:=((i+1:Nat):Int)) rfl rfl rfl ((aG ?_).trans ?_)) ?_
   ·omega
   ·omega
   iterate 2 refine af ?_
   refine⟨(i+1,h2),?_,?_,?_⟩
   ·exact⟨hk0,Cz.2,fun j hj=>by rcases On.1 hj with h | rfl;exact hall j h;exact Zm hf⟩
   ·show ws.length - (i+1)<ws.length - i
    omega
   exact To.sub KS
 ·have hi2:i=ws.length:=by have h:=Zs hc0;omega
  subst hi2
  exact(hC fun w hw=>by obtain⟨j,hj,rfl⟩:=Pz hw;rw[Di.aL [] j hj];exact hall j hj).elim
theorem Ca(ws:List Bs)(hl:ws.length<=1000000)(hw:∀ w∈ws,w.length<=1000000)(hC:∀ w∈ws,gP w):Pure Tryz.prog 108 [.nilSlice,(.func (.func 109) [] [.ip [jA ws] 0])] (Di.cg (ws.map gv)):=by
 refine Kf (N:=13) Tryz.func108 ?_
 iterate 2 refine af ?_
 refine Kc (aa.j7 rfl rfl rfl) ?_
 iterate 8 refine af ?_
 refine aI.to To.pad ?_
 refine aI.rangeFunc 0 rfl (fun _=>rfl) an (M3 ws hl hw hC) (Ze _) (Zv _) (fun _ h=>by cases h) (fun x hx=>by unfold uM at hx;obtain⟨j,_,rfl⟩:=yu.1 hx;rfl) rfl (fun k h=>h=[.cells [kL 1 k] 35,dL ((((ws.take k).map gv).flatMap Di.cK).map .p) 3 k]) (fun c h=>False) (fun _ _ h=>by rw[h];rfl) (fun _ _ h=>h.elim) rfl ?_ ?_ ?_
 ·exact Dj
 ·intro h hJ
  subst hJ
  rw[show(uM ws).length=ws.length by unfold uM;rw[Zo],ZS]
  refine af ?_
  refine aI.to (To.abb 1 0 (xs:=(ws.map gv).flatMap Di.cK) (n:=ws.length) (a:=[]) (b:=[]) [(2,.ptr 0 0)] (by decide) rfl rfl (fun h=>by rw[US.1 h];rfl) rfl rfl KS KS) ?_
  iterate 5 refine af ?_
  refine Fin.gW rfl rfl ?_
  unfold Di.cg
  rw[Zo]
 ·exact gR
theorem BE(ws:List Bs)(hl:ws.length<=1000000)(hw:∀ w∈ws,w.length<=1000000)(hC:¬ ∀ w∈ws,gP w):s9 Tryz.prog 108 [.nilSlice,(.func (.func 109) [] [.ip [jA ws] 0])] (.iface 94 (.agg [.int .i64 8])):=by
 refine au.start (N:=13) Tryz.func108 rfl rfl Kn ?_
 iterate 2 refine af ?_
 refine Kc (aa.j7 rfl rfl rfl) ?_
 iterate 8 refine af ?_
 refine aI.to To.pad ?_
 refine aI.Fs 0 rfl (fun _=>rfl) an (IV ws hl hw hC) (Ze _) (Zv _) (fun x hx=>by unfold uM at hx;obtain⟨j,_,rfl⟩:=yu.1 hx;rfl) rfl (fun k h=>h=[.cells [kL 1 k] 35,dL ((((ws.take k).map gv).flatMap Di.cK).map .p) 3 k]) (fun _ _ h=>by rw[h];rfl) rfl ?_ ?_
 ·exact Dj
 ·intro h
  exact⟨_,rfl,rfl⟩
theorem J1(ws:List Bs)(hl:ws.length<=1000000)(hw:∀ w∈ws,w.length<=1000000)(hC:∀ w∈ws,gP w):Pure Tryz.prog 41 [(.func (.func 109) [] [.ip [jA ws] 0])] (Di.cg (ws.map gv)):=by
 refine Kf (N:=5) Tryz.func41 ?_
 iterate 7 refine af ?_
 refine Kc (Kp (Ca ws hl hw hC)) ?_
 exact cQ
theorem JN(ws:List Bs)(hl:ws.length<=1000000)(hw:∀ w∈ws,w.length<=1000000)(hC:¬ ∀ w∈ws,gP w):s9 Tryz.prog 41 [(.func (.func 109) [] [.ip [jA ws] 0])] (.iface 94 (.agg [.int .i64 8])):=by
 refine au.start (N:=5) Tryz.func41 rfl rfl Kn ?_
 iterate 7 refine af ?_
 refine aj.vo 4 (BE ws hl hw hC) rfl rfl rfl rfl rfl rfl rfl an ⟨_,rfl,rfl⟩
def U5(b:bK):List PV:=aa9 b++[Di.cg b.bX]
def dn(i1 i2 i3 i4 i5:Nat)(b:bK):List V:=[aY i1 b.aq.length,aY i2 b.ah.length,aY i3 b.av.length,aY i4 b.plan.length,.p (.int .i64 (b.bad:Int)),.p (.int .i64 (b.good:Int)),aY i5 b.bX.length]
def dh(l:List Ck.Sk):ai:=dL ((l.flatMap Ck.Sk.cells).map .p) 60 l.length
def cY(l:List Rx.b6):ai:=dL ((l.flatMap Rx.b6.cells).map .p) 92 l.length
def dj(l:List Di.cU):ai:=dL ((l.flatMap Di.cU.cells).map .p) 74 l.length
def bw(l:List Int):ai:=dL ((l.flatMap Di.cK).map .p) 3 l.length
theorem yM(l:List Int)(hl:l.length<=1000000):ax Tryz.prog 72 [.p (Di.cg l)] [] fun v H2=>v=aY 0 l.length∧H2=[dL ((l.flatMap Di.cK).map .p) 3 l.length]:=by
 refine ax.start (N:=8) Tryz.func72 rfl rfl Kn ?_
 iterate 8 refine af ?_
 refine aj.zq 4 rfl rfl rfl an rfl rfl rfl (fun b hb0=> ?_)
 refine af ?_
 refine Ki (fun hc0=> ?_) fun hc0=> ?_
 ·have h0:l.length=0:=hb0 hc0
  iterate 3 refine af ?_
  refine aj.to (To.z0 2 rfl) ?_
  refine aj.to To.pad ?_
  iterate 2 refine af ?_
  have hq:V.z0=aY 0 l.length∧([.dead]:List ai)=[dL ((l.flatMap Di.cK).map .p) 3 l.length]:=⟨(oc h0).symm,by rw[nX h0]⟩
  exact qw
 ·iterate 3 refine af ?_
  refine Kc (aa.tO rfl an) ?_
  refine af ?_
  refine Kc (aa.qN rfl rfl rfl an an (pT (xs:=(l.flatMap Di.cK)) (n:=l.length) (sz:=1) (AF.cx (c:=1) (fun _=>rfl) l)) (MS Di.cK l (fun _=>rfl)) an (by decide) ?_) ?_
  ·show(2*l.length+192)*8<=281474976710656;omega
  exact mD
theorem Ju(l:List Ck.Sk)(hl:l.length<=1000000):ax Tryz.prog 81 [.p (Ck.bZ l)] [] fun v H2=>v=aY 0 l.length∧H2=[dL ((l.flatMap Ck.Sk.cells).map .p) 60 l.length]:=by
 refine ax.start (N:=8) Tryz.func81 rfl rfl Kn ?_
 iterate 8 refine af ?_
 refine aj.zq 4 rfl rfl rfl an rfl rfl rfl (fun b hb0=> ?_)
 refine af ?_
 refine Ki (fun hc0=> ?_) fun hc0=> ?_
 ·have h0:l.length=0:=hb0 hc0
  iterate 3 refine af ?_
  refine aj.to (To.z0 2 rfl) ?_
  refine aj.to To.pad ?_
  iterate 2 refine af ?_
  have hq:V.z0=aY 0 l.length∧([.dead]:List ai)=[dL ((l.flatMap Ck.Sk.cells).map .p) 60 l.length]:=⟨(oc h0).symm,by rw[nX h0]⟩
  exact qw
 ·iterate 3 refine af ?_
  refine Kc (aa.tO rfl an) ?_
  refine af ?_
  refine Kc (aa.qN rfl rfl rfl an an (pT (xs:=(l.flatMap Ck.Sk.cells)) (n:=l.length) (sz:=6) (AF.cx (c:=6) (fun _=>rfl) l)) (MS Ck.Sk.cells l (fun _=>rfl)) an (by decide) ?_) ?_
  ·show(2*l.length+192)*48<=281474976710656;omega
  exact mD
theorem J3(l:List Di.cU)(hl:l.length<=1000000):ax Tryz.prog 82 [.p (Di.mg l)] [] fun v H2=>v=aY 0 l.length∧H2=[dL ((l.flatMap Di.cU.cells).map .p) 74 l.length]:=by
 refine ax.start (N:=8) Tryz.func82 rfl rfl Kn ?_
 iterate 8 refine af ?_
 refine aj.zq 4 rfl rfl rfl an rfl rfl rfl (fun b hb0=> ?_)
 refine af ?_
 refine Ki (fun hc0=> ?_) fun hc0=> ?_
 ·have h0:l.length=0:=hb0 hc0
  iterate 3 refine af ?_
  refine aj.to (To.z0 2 rfl) ?_
  refine aj.to To.pad ?_
  iterate 2 refine af ?_
  have hq:V.z0=aY 0 l.length∧([.dead]:List ai)=[dL ((l.flatMap Di.cU.cells).map .p) 74 l.length]:=⟨(oc h0).symm,by rw[nX h0]⟩
  exact qw
 ·iterate 3 refine af ?_
  refine Kc (aa.tO rfl an) ?_
  refine af ?_
  refine Kc (aa.qN rfl rfl rfl an an (pT (xs:=(l.flatMap Di.cU.cells)) (n:=l.length) (sz:=3) (AF.cx (c:=3) (fun _=>rfl) l)) (MS Di.cU.cells l (fun _=>rfl)) an (by decide) ?_) ?_
  ·show(2*l.length+192)*24<=281474976710656;omega
  exact mD
theorem Ka{i n:Nat}{l:List V}:jF (aY i n::l)=none:=by cases n <;> rfl
theorem xI(i1 i2 i3 i4 i5:Nat)(b:bK):gD (dn i1 i2 i3 i4 i5 b)= .agg (dn i1 i2 i3 i4 i5 b):=by
 unfold gD dn
 rw[Ka]
theorem pV(i1 i2 i3 i4 i5:Nat)(b:bK):(dn i1 i2 i3 i4 i5 b).all jB=true:=by simp only[dn,Sv,List.all_nil,Nb,Bool.true_and,Bool.and_true];rfl
theorem ax.kill{f:FuncId}{args:List V}{H:List ai}{v0:V}{H0:List ai}(i:Nat)(h:ax Tryz.prog f args H fun v H2=>v=v0∧H2=H0):ax Tryz.prog f args H fun v H2=>v=v0∧H2=H0.set i .dead:=
 fun w I ρ us hi fT=>(h w I ρ us hi fT).mono fun e w' ⟨u,v,J,σ,H2,h1,⟨h2,h3⟩,h4,h5,h6⟩=>⟨u,v,J,σ,H0.set i .dead,h1,⟨h2,rfl⟩,h4,by rw[<- h3];exact h5.kill i,h6⟩
theorem FT(b:bK)(h1:b.aq.length<=1000)(h2:b.ah.length<=1000)(h3:b.av.length<=1000)(h4:b.plan.length<=1000)(h5:b.bX.length<=1000):ax Tryz.prog 35 [.p (.agg (U5 b))] [] fun v H2=>v= .agg (dn 3 2 4 5 6 b)∧H2=[.cells (dn 3 2 4 5 6 b) 83,.cells (dn 3 2 4 5 6 b) 83,cY b.ah,dh b.aq,dj b.av,bw b.plan,bw b.bX]:=by
 refine ax.start (N:=42) Tryz.func35 rfl rfl Kn ?_
 iterate 7 refine af ?_
 refine Kc (Kl (.p (.agg (U5 b)))) ?_
 iterate 7 refine af ?_
 refine Kc (Kl (.p (Rx.jX b.ah))) ?_
 refine af ?_
 refine Kc (aa.Wi rfl rfl rfl an an (by decide) ?_) ?_
 ·show 16*b.ah.length<=281474976710656;omega
 iterate 2 refine af ?_
 refine Kz (aa.vH (H':=[.cells [.p .nilSlice,.p .nilSlice,.p .nilSlice,.p .nilSlice,.p (.int .i64 0),.p (.int .i64 0),.p .nilSlice] 83,.cells [.p (Ck.bZ b.aq),aY 2 b.ah.length,.p (Di.mg b.av),.p (Di.cg b.plan),.p (.int .i64 (b.bad:Int)),.p (.int .i64 (b.good:Int)),.p (Di.cg b.bX)] 83,dL ((List.replicate b.ah.length [.int .i64 0,.int .i64 0]).flatten.map .p) 92 b.ah.length]) rfl rfl rfl an rfl) ?_
 iterate 5 refine af ?_
 refine Kc (Kl (aY 2 b.ah.length)) ?_
 iterate 2 refine af ?_
 refine Kc (Kl (.p (Rx.jX b.ah))) ?_
 refine Kc (aa.Xl (zs:=(List.replicate b.ah.length [.int .i64 0,.int .i64 0]).flatten) (xs:=(b.ah.flatMap Rx.b6.cells)) rfl rfl rfl an rfl (AF.cx (c:=2) (fun _=>rfl) b.ah) (by rw[AF.cx (c:=2) (fun _=>rfl)];simp) (MS Rx.b6.cells b.ah (fun _=>rfl)) (pT (xs:=(b.ah.flatMap Rx.b6.cells)) (n:=b.ah.length) (sz:=2) (AF.cx (c:=2) (fun _=>rfl) b.ah))) ?_
 iterate 2 refine af ?_
 refine aI.bN 10 2 [3,4] [([],false),([],false),([],false),([3],true),([],false),([],false),([],false),([4],true),([],false),([],false)] mixed (by kernel_rfl) (by decide) (by kernel_rfl) rfl (by simp[bL,bF,b8,dS,gT,fc,bz,cM,dh,cY,dj,bw,dn]) ?_
 iterate 2 refine af ?_
 refine bu.cons 21 rfl rfl rfl (fun _=>(Kl (.p (Ck.bZ b.aq)))) rfl ?_
 refine bu.lay (blk:=(dh b.aq)) (v:=aY 3 b.aq.length) (v0:=aY 5 b.aq.length) 22 3 rfl rfl rfl rfl rfl rfl rfl rfl (fun _=>(aa.G8 (args:=[Ck.bZ b.aq]) 1 5 (Ju b.aq (by omega)) rfl (gM (f:=Ck.Sk.cells) (fun _=>rfl) _) rfl rfl rfl rfl rfl an)) (cC rfl) (cC rfl) bz ?_
 iterate 2 refine af ?_
 refine bu.cons 25 rfl rfl rfl (fun _=>(Kl (.p (Di.mg b.av)))) rfl ?_
 refine bu.lay (blk:=(dj b.av)) (v:=aY 4 b.av.length) (v0:=aY 5 b.av.length) 26 4 rfl rfl rfl rfl rfl rfl rfl rfl (fun _=>(aa.G8 (args:=[Di.mg b.av]) 1 5 (J3 b.av (by omega)) rfl (gM (f:=Di.cU.cells) (fun _=>rfl) _) rfl rfl rfl rfl rfl an)) (cC rfl) (cC rfl) bz ?_
 iterate 2 refine af ?_
 refine bu.nil ?_
 refine Kz (aa.vH (H':=[.cells [.p .nilSlice,.p .nilSlice,.p .nilSlice,.p .nilSlice,.p (.int .i64 0),.p (.int .i64 0),.p .nilSlice] 83,.cells [aY 3 b.aq.length,aY 2 b.ah.length,.p (Di.mg b.av),.p (Di.cg b.plan),.p (.int .i64 (b.bad:Int)),.p (.int .i64 (b.good:Int)),.p (Di.cg b.bX)] 83,cY b.ah,dh b.aq,dj b.av]) rfl rfl rfl an rfl) ?_
 iterate 2 refine af ?_
 refine Kz (aa.vH (H':=[.cells [.p .nilSlice,.p .nilSlice,.p .nilSlice,.p .nilSlice,.p (.int .i64 0),.p (.int .i64 0),.p .nilSlice] 83,.cells [aY 3 b.aq.length,aY 2 b.ah.length,aY 4 b.av.length,.p (Di.cg b.plan),.p (.int .i64 (b.bad:Int)),.p (.int .i64 (b.good:Int)),.p (Di.cg b.bX)] 83,cY b.ah,dh b.aq,dj b.av]) rfl rfl rfl an rfl) ?_
 iterate 2 refine af ?_
 refine aI.bN 9 2 [5,6] [([],false),([],false),([],false),([5],true),([],false),([],false),([6],true),([],false),([],false)] mixed (by kernel_rfl) (by decide) (by kernel_rfl) rfl (by simp[bL,bF,b8,dS,gT,fc,bz,cM,dh,cY,dj,bw,dn]) ?_
 iterate 2 refine af ?_
 refine bu.cons 33 rfl rfl rfl (fun _=>(Kl (.p (Di.cg b.plan)))) rfl ?_
 refine bu.lay (blk:=(bw b.plan)) (v:=aY 5 b.plan.length) (v0:=aY 7 b.plan.length) 34 5 rfl rfl rfl rfl rfl rfl rfl rfl (fun _=>(aa.G8 (args:=[Di.cg b.plan]) 1 7 (yM b.plan (by omega)) rfl (gM (f:=Di.cK) (fun _=>rfl) _) rfl rfl rfl rfl rfl an)) (cC rfl) (cC rfl) bz ?_
 refine af ?_
 refine bu.cons 36 rfl rfl rfl (fun _=>(Kl (.p (Di.cg b.bX)))) rfl ?_
 refine bu.lay (blk:=(bw b.bX)) (v:=aY 6 b.bX.length) (v0:=aY 7 b.bX.length) 37 6 rfl rfl rfl rfl rfl rfl rfl rfl (fun _=>(aa.G8 (args:=[Di.cg b.bX]) 1 7 (yM b.bX (by omega)) rfl (gM (f:=Di.cK) (fun _=>rfl) _) rfl rfl rfl rfl rfl an)) (cC rfl) (cC rfl) bz ?_
 iterate 2 refine af ?_
 refine bu.nil ?_
 refine Kz (aa.vH (H':=[.cells [.p .nilSlice,.p .nilSlice,.p .nilSlice,.p .nilSlice,.p (.int .i64 0),.p (.int .i64 0),.p .nilSlice] 83,.cells [aY 3 b.aq.length,aY 2 b.ah.length,aY 4 b.av.length,aY 5 b.plan.length,.p (.int .i64 (b.bad:Int)),.p (.int .i64 (b.good:Int)),.p (Di.cg b.bX)] 83,cY b.ah,dh b.aq,dj b.av,bw b.plan,bw b.bX]) rfl rfl rfl an rfl) ?_
 refine af ?_
 refine Kz (aa.vH (H':=[.cells [.p .nilSlice,.p .nilSlice,.p .nilSlice,.p .nilSlice,.p (.int .i64 0),.p (.int .i64 0),.p .nilSlice] 83,.cells (dn 3 2 4 5 6 b) 83,cY b.ah,dh b.aq,dj b.av,bw b.plan,bw b.bX]) rfl rfl rfl an rfl) ?_
 iterate 3 refine af ?_
 refine Kc (aa.load (v:= .agg (dn 3 2 4 5 6 b)) rfl rfl an (show c7 _ _ _ _=_ from congrArg some (xI 3 2 4 5 6 b))) ?_
 refine Kz (aa.store (H':=[.cells (dn 3 2 4 5 6 b) 83,.cells (dn 3 2 4 5 6 b) 83,cY b.ah,dh b.aq,dj b.av,bw b.plan,bw b.bX]) rfl rfl rfl rfl (pV 3 2 4 5 6 b) an rfl rfl) ?_
 iterate 2 refine af ?_
 exact lK.one rfl ⟨_,_,_,rfl,an,(show c7 _ _ _ _=_ from congrArg some (xI 3 2 4 5 6 b))⟩ ⟨rfl,rfl⟩
theorem Jv(b:bK)(h1:b.aq.length<=1000)(h2:b.ah.length<=1000)(h3:b.av.length<=1000)(h4:b.plan.length<=1000)(h5:b.bX.length<=1000):ax Tryz.prog 35 ([.agg (U5 b)].map .p) [] fun v H2=>v= .agg (dn 3 2 4 5 6 b)∧H2=[.dead,.dead,cY b.ah,dh b.aq,dj b.av,bw b.plan,bw b.bX]:=
 ax.kill 1 (ax.kill 0 (FT b h1 h2 h3 h4 h5))
def cz(b:bK)(p:Di.bO)(um:V)(i1 i2 i3 i4 i5:Nat):ai:= .cells (dn i1 i2 i3 i4 i5 b++p.cells.map .p++[um,.p (.bool true)]) 87
def nA(b:bK)(p:Di.bO)(um:V):List ai:=[cz b p um 1 2 3 4 5,dh b.aq,cY b.ah,dj b.av,bw b.plan,bw b.bX]
theorem LC(l:List Rx.b6)(x:Rx.b6):ai.row ((l.flatMap Rx.b6.cells).map .p++x.cells.map .p) 92=cY (l++[x]):=by
 unfold cY
 exact qB
theorem My(l:List Ck.Sk)(x:Ck.Sk):ai.row ((l.flatMap Ck.Sk.cells).map .p++x.cells.map .p) 60=dh (l++[x]):=by
 unfold dh
 exact qB
theorem KM(l:List Di.cU)(x:Di.cU):ai.row ((l.flatMap Di.cU.cells).map .p++x.cells.map .p) 74=dj (l++[x]):=by
 unfold dj
 exact qB
theorem CF(l:List Int)(x:Int):ai.row ((l.flatMap Di.cK).map .p++(Di.cK x).map .p) 3=bw (l++[x]):=by
 unfold bw
 exact qB
theorem kY{α:Type}(i:Nat)(l:List α)(x:α):V.row i (l.length+1)=aY i (l++[x]).length:=by
 rw[Zd];rfl
def YT(b:bK)(p:Di.bO)(um:V)(H:List ai):Prop:=∃ i1 i2 i3 i4 i5:Nat,[0,i1,i2,i3,i4,i5].Nodup∧H[0]? =some (cz b p um i1 i2 i3 i4 i5)∧H[i1]? =some (dh b.aq)∧H[i2]? =some (cY b.ah)∧H[i3]? =some (dj b.av)∧H[i4]? =some (bw b.plan)∧H[i5]? =some (bw b.bX)
def CL(b:bK)(p:Di.bO)(um:V)(H:List ai):Prop:=6<=H.length∧∀(j:Nat) (y:ai),0<j->j<6->H[j]? =some y->y= .dead∨(nA b p um)[j]? =some y
def TP(b:bK)(p:Di.bO)(um:V)(H:List ai):Prop:=(∃ cs:List V,cs.length=7∧H[0]? =some (.cells (cs++p.cells.map .p++[um,.p (.bool true)]) 87))∧CL b p um H
theorem Tv(b:bK)(p:Di.bO)(um:V):YT b p um (nA b p um):=⟨1,2,3,4,5,by decide,rfl,rfl,rfl,rfl,rfl,rfl⟩
theorem Cx(b:bK)(p:Di.bO)(um:V):CL b p um (nA b p um):=⟨Ze _,fun j y _ _ h=> .inr h⟩
theorem fq(b:bK)(p:Di.bO)(um:V):TP b p um (nA b p um):=⟨⟨_,rfl,rfl⟩,Cx b p um⟩
theorem SW(b:bK)(p:Di.bO)(a:Option Addr)(m c:Nat):TE Tryz.prog (nA b p (.raw a m c)):=vw (by
 intro blk h
 simp only[nA,Zr,HL,or_false] at h
 rcases h with rfl | rfl | rfl | rfl | rfl | rfl
 ·simp[cz,nA,dn,bL,bF,b8,dS,gT,La,Di.bO.cells]
 ·exact bz
 ·exact bz
 ·exact bz
 ·exact bz
 ·exact bz)
theorem Oa{H:List ai}{b:bK}{p:Di.bO}{um:V}{i1 i2 i3 i4 i5 k:Nat}{v:V}(h0:H[0]? =some (cz b p um i1 i2 i3 i4 i5))(hv:(dn i1 i2 i3 i4 i5 b++p.cells.map .p++[um,.p (.bool true)])[k]? =some v):c7 H false 1 (.ptr 0 k)=some v:=by
 simp only[c7,h0]
 exact hv
theorem Wb{H:List ai}{b:bK}{p:Di.bO}{um v:V}{i1 i2 i3 i4 i5 k:Nat}{cs:List V}(h0:H[0]? =some (cz b p um i1 i2 i3 i4 i5))(hk:k+1<=13)(hc:setAt (dn i1 i2 i3 i4 i5 b++p.cells.map .p++[um,.p (.bool true)]) k [v]=cs):gu H 0 k [v]=some (H.set 0 (.cells cs 87)):=by
 subst hc
 simp only[gu,h0]
 exact if_pos hk
theorem MJ(b:bK)(p:Di.bO)(um:V)(i1 i2 i3 i4 i5:Nat)(H:List ai)(h0:H[0]? =some (cz b p um i1 i2 i3 i4 i5)):au Tryz.prog 139 [.ptr 0 0] H (fun v H2=>b.ah.length<24∧v= .p (.tuple [])∧H2=H) (fun y H2=>¬ b.ah.length<24∧y=(.iface 94 (.agg [.int .i64 9]))∧H2=H):=by
 refine au.start (N:=11) Tryz.func139 rfl rfl Kn ?_
 iterate 6 refine af ?_
 refine Kc (aa.load (v:=aY i2 b.ah.length) rfl rfl an (Oa h0 rfl)) ?_
 refine Kc (aa.cD rfl rfl an pR) ?_
 refine af ?_
 refine aj.ct 10 (b:=_) (de _ 9) (dc _ 9) rfl rfl rfl rfl rfl rfl rfl an (fun hb=> ?_) (fun hb=> ?_)
 ·exact⟨_,rfl,fun h=>Zs hb (by omega),rfl,rfl⟩
 refine af ?_
 have gZ:=Zm hb
 exact⟨.inl rfl,_,eT.none_ rfl,by omega,rfl,rfl⟩
theorem WL(b:bK)(p:Di.bO)(um:V)(i1 i2 i3 i4 i5:Nat)(H:List ai)(h0:H[0]? =some (cz b p um i1 i2 i3 i4 i5))(n:Int):ax Tryz.prog 143 [.ptr 0 0,.p (.int .i64 n)] H (fun v H2=>v= .p (.bool (decide (n<(b.ah.length:Int))))∧H2=H):=by
 refine ax.start (N:=14) Tryz.func143 rfl rfl Kn ?_
 iterate 12 refine af ?_
 refine Kc (aa.load (v:=aY i2 b.ah.length) rfl rfl an (Oa h0 rfl)) ?_
 refine Kc (aa.cD rfl rfl an pR) ?_
 iterate 4 refine af ?_
 exact lK.one rfl rfl ⟨rfl,rfl⟩
theorem LQ(b:bK)(p:Di.bO)(um:V)(i1 i2 i3 i4 i5:Nat)(H:List ai)(h0:H[0]? =some (cz b p um i1 i2 i3 i4 i5))(h2:H[i2]? =some (cY b.ah))(hi:i2≠0)(x y:Int):au Tryz.prog 87 [.ptr 0 0,.p (.int .i64 x),.p (.int .i64 y)] H (fun v H2=>b.ah.length<24∧v= .p (.int .i64 (b.ah.length:Int))∧H2=(H.set i2 .dead++[cY (b.fh ⟨x,y⟩).ah]).set 0 (cz (b.fh ⟨x,y⟩) p um i1 H.length i3 i4 i5)) (fun q H2=>¬ b.ah.length<24∧q=(.iface 94 (.agg [.int .i64 9]))∧H2=H):=by
 refine au.start (N:=33) Tryz.func87 rfl rfl Kn ?_
 have h0L:0<H.length:=(Za.1 h0).1
 have h0s:(H.set i2 .dead++[ai.row ((b.ah.flatMap Rx.b6.cells).map .p++(Rx.b6.mk x y).cells.map .p) 92])[0]? =some (cz b p um i1 i2 i3 i4 i5):=by rw[Zc (by rw[yd];exact h0L),Zu,if_neg hi];exact h0
 iterate 7 refine af ?_
 refine aj.e8 8 (MJ b p um i1 i2 i3 i4 i5 H h0) rfl rfl rfl rfl rfl rfl rfl an (fun y H2 iH=> ?_) (fun v H2 iH=> ?_)
 ·obtain⟨q1,q2,q3⟩:=iH
  exact⟨_,rfl,q1,q2,q3⟩
 obtain⟨hlt,rfl,hH⟩:=iH
 have hH:=hH.symm
 subst hH
 iterate 9 refine af ?_
 refine Kc (aa.load (v:=aY i2 b.ah.length) rfl rfl an (Oa h0 rfl)) ?_
 iterate 3 refine af ?_
 refine Kc (aa.aQ rfl an (by decide) rfl rfl rfl) ?_
 refine Kc (aa.qe (i:=i2) (len:=b.ah.length) (cs:=(b.ah.flatMap Rx.b6.cells).map .p) (ys:=(Rx.b6.mk x y).cells.map .p) (n:=1) rfl rfl rfl an an h2 ?_ rfl (by decide) rfl an (by decide) ?_) ?_
 ·rw[Zo,AF.cx (c:=2) (fun _=>rfl)];rfl
 ·show(2*(b.ah.length+1)+192)*16<=281474976710656;omega
 iterate 4 refine af ?_
 refine Kz (aa.store rfl rfl rfl rfl rfl an rfl (Wb h0s (by decide) rfl)) ?_
 iterate 8 refine af ?_
 refine Kc (aa.load (v:= .row H.length (b.ah.length+1)) rfl rfl an (by simp only[c7];rw[Zu,if_pos rfl,if_pos (by rw[Zd,yd];omega)];rfl)) ?_
 refine af ?_
 refine Kc (aa.fE (m:=(b.ah.length:Int)) rfl rfl rfl ((aG ?_).trans ?_)) ?_
 ·omega
 ·omega
 iterate 3 refine af ?_
 refine iy.one rfl rfl ⟨hlt,rfl,?_⟩
 rw[LC]
 congr 1
 unfold cz dn
 have eA:aY H.length (b.fh ⟨x,y⟩).ah.length= .row H.length (b.ah.length+1):=(kY H.length b.ah ⟨x,y⟩).symm
 rw[eA]
 rfl
theorem Ap(b:bK)(p:Di.bO)(a:Option Addr)(m c:Nat):au Tryz.prog 139 [.ptr 0 0] (nA b p (.raw a m c)) (fun v H2=>b.ah.length<24∧v= .p (.tuple [])∧H2=nA b p (.raw a m c)) (fun y H2=>¬ b.ah.length<24∧y=(.iface 94 (.agg [.int .i64 9]))∧H2=nA b p (.raw a m c)):=MJ b p (.raw a m c) 1 2 3 4 5 (nA b p (.raw a m c)) rfl
theorem tJ(b:bK)(p:Di.bO)(a:Option Addr)(m c:Nat)(n:Int):ax Tryz.prog 143 [.ptr 0 0,.p (.int .i64 n)] (nA b p (.raw a m c)) (fun v H2=>v= .p (.bool (decide (n<(b.ah.length:Int))))∧H2=nA b p (.raw a m c)):=WL b p (.raw a m c) 1 2 3 4 5 (nA b p (.raw a m c)) rfl n
theorem Ab(b:bK)(p:Di.bO)(a:Option Addr)(m c:Nat)(x y:Int):au Tryz.prog 87 [.ptr 0 0,.p (.int .i64 x),.p (.int .i64 y)] (nA b p (.raw a m c)) (fun v H2=>b.ah.length<24∧v= .p (.int .i64 (b.ah.length:Int))∧H2=[cz (b.fh ⟨x,y⟩) p (.raw a m c) 1 6 3 4 5,dh b.aq,.dead,dj b.av,bw b.plan,bw b.bX,cY (b.fh ⟨x,y⟩).ah]) (fun q H2=>¬ b.ah.length<24∧q=(.iface 94 (.agg [.int .i64 9]))∧H2=nA b p (.raw a m c)):=LQ b p (.raw a m c) 1 2 3 4 5 (nA b p (.raw a m c)) rfl rfl (by decide) x y
end Go.Proofs.YtibffijhebobmaaGreatDoor
end
