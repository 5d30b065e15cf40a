/-
 Contracts of the library's shelf, laid at this program by the kit's tool.
 Chapter 15: what the library's texts do at this program: numbers as texts; texts that are cut, joined, looked at.
 The program of chapter 15: small functions; the batches of a set; a reply.
 The program of chapter 15: a number in a word; a reply.
 The program of chapter 15: the numbers in words.
 The program of chapter 15: books that are copied.
 The program of chapter 15: the floor; a card more.
-/
import Derived.Shelf.LaysM
import Derived.Shelf.Strconv.Itoa3
import Derived.Shelf.Bits.Mul64
import Derived.Shelf.Strings.Count
import Derived.Shelf.Strings.Search3
import Derived.Shelf.Strings.SplitCore
import Derived.Shelf.Strings.Prefix
import Derived.Shelf.Strings.OnBuilder
import Derived.Shelf.Small.Strs
import Derived.Shelf.Small.Wraps
import Derived.Shelf.Spec.TrailingZeros
import Derived.Shelf.Lays7
import Derived.Shelf.Strconv.Atoi
import Derived.Shelf.Strings.Fields
import Derived.Test.YtibffijhebobmaaGreatDoorProg
import Derived.Test.YtibffijhebobmaaGreatDoorMzSP
import Derived.Test.YtibffijhebobmaaGreatDoorMzSF
import Derived.Test.YtibffijhebobmaaGreatDoorFaSF
import Derived.Test.YtibffijhebobmaaGreatDoorMzSM
import Derived.Test.YtibffijhebobmaaGreatDoorMzSZ
theorem Ch{A:Prop}(h:A:=by
 intro l tmps k h x hJ hx
 subst hJ
 have hk:k<ws.length:=by have:=(Za.1 hx).1;unfold uO at this;rwa [Zr] at this
 obtain rfl:x=[.p (.int .i64 (fJ ws[k]))]:=by unfold uO at hx;rw[Zs,Zb hk] at hx;simpa using hx.symm
 iterate 3 refine af ?_
 refine⟨rfl,rfl,?_⟩
 iterate 2 refine af ?_
 refine Kc (Kl (hO 1 k)) ?_
 refine af ?_
 refine Kc (aa.aR rfl an (by decide) rfl rfl rfl) ?_
 refine Kc (aa.iG rfl rfl rfl an an rfl ?_ rfl (by decide) rfl an (by decide) ?_) ?_
 ·rw[Zr,AF.cy (c:=1) (fun _=>rfl),Zr,EA];show min _ _*1=_*1;omega
 ·omega
 iterate 2 refine af ?_
 refine⟨_,rfl,To.done [0,3,2] rfl Sub.nil ?_⟩
 show[ai.cells [V.row 1 (k+1)] 35,ai.row (bw _ (_++_)) _,_]=_
 rw[bF,aX,<- ZbB hk,ZC,Hp,ZC]
 rfl):A:=h
theorem qD{A:Prop}(h:A:=by
 rw[Zc,Hp,ZC]
 simp[dA]):A:=h
set_option linter.unusedSimpArgs false
set_option linter.unusedVariables false
section
namespace Go.Proofs
open Go.Shelf
def Tryz.zC:Go.Shelf.Ren:=⟨fun | 171=>14 | 243=>43 | 246=>111 | 283=>154 | 284=>155 | 285=>156 | 286=>157 | 129=>193 | 317=>192 | 318=>194 | 319=>195 | 320=>147 | 337=>188 | 338=>189 | n=>n,fun | 3=>3 | 9=>9 | 2=>2 | 4=>4 | 171=>223 | 0=>0 | 53=>224 | 37=>68 | 5=>5 | 173=>227 | 212=>269 | 51=>52 | 20=>20 | 213=>270 | 46=>175 | 232=>283 | 233=>284 | n=>n,fun | 17=>5 | 18=>6 | 19=>7 | n=>n⟩
theorem Tryz.Nt:Go.Proofs.LaysM.n171 Tryz.prog Tryz.zC:={
 mixed:=by kernel_rfl
 f129:= Tryz.func193.trans (congrArg some (by kernel_rfl))
 f171:= Tryz.func14.trans (congrArg some (by kernel_rfl))
 f243:= Tryz.func43.trans (congrArg some (by kernel_rfl))
 f246:= Tryz.func111.trans (congrArg some (by kernel_rfl))
 f283:= Tryz.func154.trans (congrArg some (by kernel_rfl))
 f284:= Tryz.func155.trans (congrArg some (by kernel_rfl))
 f285:= Tryz.func156.trans (congrArg some (by kernel_rfl))
 f286:= Tryz.func157.trans (congrArg some (by kernel_rfl))
 f317:= Tryz.func192.trans (congrArg some (by kernel_rfl))
 f318:= Tryz.func194.trans (congrArg some (by kernel_rfl))
 f319:= Tryz.func195.trans (congrArg some (by kernel_rfl))
 f320:= Tryz.func147.trans (congrArg some (by kernel_rfl))
 f337:= Tryz.func188.trans (congrArg some (by kernel_rfl))
 f338:= Tryz.func189.trans (congrArg some (by kernel_rfl))
 t0:= Tryz.underlying0
 a0:= Tryz.isAgg0
 z0:= Tryz.sizeOf0
 v0:= Tryz.zeroValue0
 t2:= Tryz.underlying2
 a2:= Tryz.isAgg2
 z2:= Tryz.sizeOf2
 v2:= Tryz.zeroValue2
 t3:= Tryz.underlying3
 a3:= Tryz.isAgg3
 z3:= Tryz.sizeOf3
 v3:= Tryz.zeroValue3
 t4:= Tryz.underlying4
 a4:= Tryz.isAgg4
 z4:= Tryz.sizeOf4
 v4:= Tryz.zeroValue4
 t5:= Tryz.underlying5
 a5:= Tryz.isAgg5
 z5:= Tryz.sizeOf5
 v5:= Tryz.zeroValue5
 t9:= Tryz.underlying9
 a9:= Tryz.isAgg9
 z9:= Tryz.sizeOf9
 v9:= Tryz.zeroValue9
 t20:= Tryz.underlying20
 a20:= Tryz.isAgg20
 z20:= Tryz.sizeOf20
 v20:= Tryz.zeroValue20
 t37:= Tryz.underlying68
 a37:= Tryz.isAgg68
 z37:= Tryz.sizeOf68
 v37:= Tryz.zeroValue68
 t46:= Tryz.underlying175
 a46:= Tryz.isAgg175
 z46:= Tryz.sizeOf175
 v46:= Tryz.zeroValue175
 t51:= Tryz.underlying52
 a51:= Tryz.isAgg52
 z51:= Tryz.sizeOf52
 v51:= Tryz.zeroValue52
 t53:= Tryz.underlying224
 a53:= Tryz.isAgg224
 z53:= Tryz.sizeOf224
 v53:= Tryz.zeroValue224
 t171:= Tryz.underlying223
 a171:= Tryz.isAgg223
 z171:= Tryz.sizeOf223
 v171:= Tryz.zeroValue223
 t173:= Tryz.underlying227
 a173:= Tryz.isAgg227
 z173:= Tryz.sizeOf227
 v173:= Tryz.zeroValue227
 t212:= Tryz.underlying269
 a212:= Tryz.isAgg269
 z212:= Tryz.sizeOf269
 v212:= Tryz.zeroValue269
 t213:= Tryz.underlying270
 a213:= Tryz.isAgg270
 z213:= Tryz.sizeOf270
 t232:= Tryz.underlying283
 a232:= Tryz.isAgg283
 z232:= Tryz.sizeOf283
 v232:= Tryz.zeroValue283
 t233:= Tryz.underlying284
 a233:= Tryz.isAgg284
 z233:= Tryz.sizeOf284
 v233:= Tryz.zeroValue284
 g17:=by kernel_rfl
 g18:=by kernel_rfl
 g19:=by kernel_rfl
 i0:=by kernel_rfl
 i2:=by kernel_rfl
 i3:=by kernel_rfl
 i4:=by kernel_rfl
 i5:=by kernel_rfl
 i9:=by kernel_rfl
 i20:=by kernel_rfl
 i37:=by kernel_rfl
 i46:=by kernel_rfl
 i51:=by kernel_rfl
 i53:=by kernel_rfl
 i171:=by kernel_rfl
 i173:=by kernel_rfl
 i212:=by kernel_rfl
 i232:=by kernel_rfl
 i233:=by kernel_rfl
 m17:=by kernel_rfl
 m18:=by kernel_rfl
 m19:=by kernel_rfl}
def Tryz.tF:Go.Shelf.Ren:=⟨fun | 156=>134 | 165=>173 | 166=>79 | 169=>80 | 240=>135 | 241=>203 | 276=>174 | 277=>211 | n=>n,fun | 31=>27 | 9=>9 | 3=>3 | 4=>4 | 0=>0 | 20=>20 | 72=>148 | 76=>65 | 70=>146 | 37=>68 | 75=>64 | 127=>199 | 164=>256 | 5=>5 | 80=>154 | n=>n,fun | n=>n⟩
theorem Tryz.QS:Go.Proofs.Lays.n156 Tryz.prog Tryz.tF:={
 mixed:=by kernel_rfl
 f156:= Tryz.func134.trans (congrArg some (by kernel_rfl))
 f165:= Tryz.func173.trans (congrArg some (by kernel_rfl))
 f166:= Tryz.func79.trans (congrArg some (by kernel_rfl))
 f169:= Tryz.func80.trans (congrArg some (by kernel_rfl))
 f240:= Tryz.func135.trans (congrArg some (by kernel_rfl))
 f241:= Tryz.func203.trans (congrArg some (by kernel_rfl))
 f276:= Tryz.func174.trans (congrArg some (by kernel_rfl))
 f277:= Tryz.func211.trans (congrArg some (by kernel_rfl))
 t0:= Tryz.underlying0
 a0:= Tryz.isAgg0
 z0:= Tryz.sizeOf0
 v0:= Tryz.zeroValue0
 t3:= Tryz.underlying3
 a3:= Tryz.isAgg3
 z3:= Tryz.sizeOf3
 v3:= Tryz.zeroValue3
 t4:= Tryz.underlying4
 a4:= Tryz.isAgg4
 z4:= Tryz.sizeOf4
 v4:= Tryz.zeroValue4
 t9:= Tryz.underlying9
 a9:= Tryz.isAgg9
 z9:= Tryz.sizeOf9
 v9:= Tryz.zeroValue9
 t20:= Tryz.underlying20
 a20:= Tryz.isAgg20
 z20:= Tryz.sizeOf20
 v20:= Tryz.zeroValue20
 t31:= Tryz.underlying27
 a31:= Tryz.isAgg27
 z31:= Tryz.sizeOf27
 v31:= Tryz.zeroValue27
 t37:= Tryz.underlying68
 a37:= Tryz.isAgg68
 z37:= Tryz.sizeOf68
 v37:= Tryz.zeroValue68
 t70:= Tryz.underlying146
 a70:= Tryz.isAgg146
 z70:= Tryz.sizeOf146
 v70:= Tryz.zeroValue146
 t72:= Tryz.underlying148
 a72:= Tryz.isAgg148
 z72:= Tryz.sizeOf148
 v72:= Tryz.zeroValue148
 t75:= Tryz.underlying64
 a75:= Tryz.isAgg64
 z75:= Tryz.sizeOf64
 v75:= Tryz.zeroValue64
 t76:= Tryz.underlying65
 a76:= Tryz.isAgg65
 z76:= Tryz.sizeOf65
 v76:= Tryz.zeroValue65
 t127:= Tryz.underlying199
 a127:= Tryz.isAgg199
 z127:= Tryz.sizeOf199
 v127:= Tryz.zeroValue199
 t164:= Tryz.underlying256
 a164:= Tryz.isAgg256
 z164:= Tryz.sizeOf256
 v164:= Tryz.zeroValue256}
def Tryz.Cz:Go.Shelf.Ren:=⟨fun | 221=>84 | 268=>137 | 138=>138 | 143=>47 | 195=>175 | 197=>176 | 218=>177 | 219=>112 | 260=>204 | 217=>158 | 225=>159 | 224=>160 | 267=>161 | 266=>196 | 314=>197 | n=>n,fun | 9=>9 | 3=>3 | 31=>27 | 4=>4 | 0=>0 | 105=>258 | 21=>21 | 5=>5 | 46=>175 | 119=>123 | 139=>291 | 138=>290 | 146=>271 | 51=>52 | n=>n,fun | 1=>2 | 3=>8 | 4=>9 | n=>n⟩
theorem Tryz.Rm:Go.Proofs.Lays.n221 Tryz.prog Tryz.Cz:={
 mixed:=by kernel_rfl
 f138:= Tryz.func138.trans (congrArg some (by kernel_rfl))
 f143:= Tryz.func47.trans (congrArg some (by kernel_rfl))
 f195:= Tryz.func175.trans (congrArg some (by kernel_rfl))
 f197:= Tryz.func176.trans (congrArg some (by kernel_rfl))
 f217:= Tryz.func158.trans (congrArg some (by kernel_rfl))
 f218:= Tryz.func177.trans (congrArg some (by kernel_rfl))
 f219:= Tryz.func112.trans (congrArg some (by kernel_rfl))
 f221:= Tryz.func84.trans (congrArg some (by kernel_rfl))
 f224:= Tryz.func160.trans (congrArg some (by kernel_rfl))
 f225:= Tryz.func159.trans (congrArg some (by kernel_rfl))
 f260:= Tryz.func204.trans (congrArg some (by kernel_rfl))
 f266:= Tryz.func196.trans (congrArg some (by kernel_rfl))
 f267:= Tryz.func161.trans (congrArg some (by kernel_rfl))
 f268:= Tryz.func137.trans (congrArg some (by kernel_rfl))
 f314:= Tryz.func197.trans (congrArg some (by kernel_rfl))
 t0:= Tryz.underlying0
 a0:= Tryz.isAgg0
 z0:= Tryz.sizeOf0
 v0:= Tryz.zeroValue0
 t3:= Tryz.underlying3
 a3:= Tryz.isAgg3
 z3:= Tryz.sizeOf3
 v3:= Tryz.zeroValue3
 t4:= Tryz.underlying4
 a4:= Tryz.isAgg4
 z4:= Tryz.sizeOf4
 v4:= Tryz.zeroValue4
 t5:= Tryz.underlying5
 a5:= Tryz.isAgg5
 z5:= Tryz.sizeOf5
 v5:= Tryz.zeroValue5
 t9:= Tryz.underlying9
 a9:= Tryz.isAgg9
 z9:= Tryz.sizeOf9
 v9:= Tryz.zeroValue9
 t21:= Tryz.underlying21
 a21:= Tryz.isAgg21
 z21:= Tryz.sizeOf21
 v21:= Tryz.zeroValue21
 t31:= Tryz.underlying27
 a31:= Tryz.isAgg27
 z31:= Tryz.sizeOf27
 v31:= Tryz.zeroValue27
 t46:= Tryz.underlying175
 a46:= Tryz.isAgg175
 z46:= Tryz.sizeOf175
 v46:= Tryz.zeroValue175
 t51:= Tryz.underlying52
 a51:= Tryz.isAgg52
 z51:= Tryz.sizeOf52
 v51:= Tryz.zeroValue52
 t105:= Tryz.underlying258
 a105:= Tryz.isAgg258
 z105:= Tryz.sizeOf258
 v105:= Tryz.zeroValue258
 t119:= Tryz.underlying123
 a119:= Tryz.isAgg123
 z119:= Tryz.sizeOf123
 t138:= Tryz.underlying290
 a138:= Tryz.isAgg290
 z138:= Tryz.sizeOf290
 v138:= Tryz.zeroValue290
 t139:= Tryz.underlying291
 a139:= Tryz.isAgg291
 z139:= Tryz.sizeOf291
 v139:= Tryz.zeroValue291
 t146:= Tryz.underlying271
 a146:= Tryz.isAgg271
 z146:= Tryz.sizeOf271
 v146:= Tryz.zeroValue271
 g1:=by kernel_rfl
 g3:=by kernel_rfl
 g4:=by kernel_rfl}
def Tryz.DM:Go.Shelf.Ren:=⟨fun | 143=>47 | 219=>112 | 217=>158 | 225=>159 | 224=>160 | 267=>161 | 266=>196 | 314=>197 | n=>n,fun | 9=>9 | 3=>3 | 4=>4 | 5=>5 | 46=>175 | 146=>271 | 51=>52 | n=>n,fun | 1=>2 | n=>n⟩
theorem Tryz.Pz:Go.Proofs.Lays.n143 Tryz.prog Tryz.DM:={
 mixed:=by kernel_rfl
 f143:= Tryz.func47.trans (congrArg some (by kernel_rfl))
 f217:= Tryz.func158.trans (congrArg some (by kernel_rfl))
 f219:= Tryz.func112.trans (congrArg some (by kernel_rfl))
 f224:= Tryz.func160.trans (congrArg some (by kernel_rfl))
 f225:= Tryz.func159.trans (congrArg some (by kernel_rfl))
 f266:= Tryz.func196.trans (congrArg some (by kernel_rfl))
 f267:= Tryz.func161.trans (congrArg some (by kernel_rfl))
 f314:= Tryz.func197.trans (congrArg some (by kernel_rfl))
 t3:= Tryz.underlying3
 a3:= Tryz.isAgg3
 z3:= Tryz.sizeOf3
 v3:= Tryz.zeroValue3
 t4:= Tryz.underlying4
 a4:= Tryz.isAgg4
 z4:= Tryz.sizeOf4
 v4:= Tryz.zeroValue4
 t5:= Tryz.underlying5
 a5:= Tryz.isAgg5
 z5:= Tryz.sizeOf5
 v5:= Tryz.zeroValue5
 t9:= Tryz.underlying9
 a9:= Tryz.isAgg9
 z9:= Tryz.sizeOf9
 v9:= Tryz.zeroValue9
 t46:= Tryz.underlying175
 a46:= Tryz.isAgg175
 z46:= Tryz.sizeOf175
 v46:= Tryz.zeroValue175
 t51:= Tryz.underlying52
 a51:= Tryz.isAgg52
 z51:= Tryz.sizeOf52
 v51:= Tryz.zeroValue52
 t146:= Tryz.underlying271
 a146:= Tryz.isAgg271
 z146:= Tryz.sizeOf271
 v146:= Tryz.zeroValue271
 g1:=by kernel_rfl}
def Tryz.Bw:Go.Shelf.Ren:=⟨fun | 138=>138 | 195=>175 | 218=>177 | 143=>47 | 219=>112 | 217=>158 | 225=>159 | 224=>160 | 267=>161 | 266=>196 | 314=>197 | n=>n,fun | 9=>9 | 3=>3 | 4=>4 | 5=>5 | 0=>0 | 46=>175 | 146=>271 | 51=>52 | n=>n,fun | 1=>2 | n=>n⟩
theorem Tryz.Qq:Go.Proofs.Lays.n138 Tryz.prog Tryz.Bw:={
 mixed:=by kernel_rfl
 f138:= Tryz.func138.trans (congrArg some (by kernel_rfl))
 f143:= Tryz.func47.trans (congrArg some (by kernel_rfl))
 f195:= Tryz.func175.trans (congrArg some (by kernel_rfl))
 f217:= Tryz.func158.trans (congrArg some (by kernel_rfl))
 f218:= Tryz.func177.trans (congrArg some (by kernel_rfl))
 f219:= Tryz.func112.trans (congrArg some (by kernel_rfl))
 f224:= Tryz.func160.trans (congrArg some (by kernel_rfl))
 f225:= Tryz.func159.trans (congrArg some (by kernel_rfl))
 f266:= Tryz.func196.trans (congrArg some (by kernel_rfl))
 f267:= Tryz.func161.trans (congrArg some (by kernel_rfl))
 f314:= Tryz.func197.trans (congrArg some (by kernel_rfl))
 t0:= Tryz.underlying0
 a0:= Tryz.isAgg0
 z0:= Tryz.sizeOf0
 v0:= Tryz.zeroValue0
 t3:= Tryz.underlying3
 a3:= Tryz.isAgg3
 z3:= Tryz.sizeOf3
 v3:= Tryz.zeroValue3
 t4:= Tryz.underlying4
 a4:= Tryz.isAgg4
 z4:= Tryz.sizeOf4
 v4:= Tryz.zeroValue4
 t5:= Tryz.underlying5
 a5:= Tryz.isAgg5
 z5:= Tryz.sizeOf5
 v5:= Tryz.zeroValue5
 t9:= Tryz.underlying9
 a9:= Tryz.isAgg9
 z9:= Tryz.sizeOf9
 v9:= Tryz.zeroValue9
 t46:= Tryz.underlying175
 a46:= Tryz.isAgg175
 z46:= Tryz.sizeOf175
 v46:= Tryz.zeroValue175
 t51:= Tryz.underlying52
 a51:= Tryz.isAgg52
 z51:= Tryz.sizeOf52
 v51:= Tryz.zeroValue52
 t146:= Tryz.underlying271
 a146:= Tryz.isAgg271
 z146:= Tryz.sizeOf271
 v146:= Tryz.zeroValue271
 g1:=by kernel_rfl}
def Tryz.CO:Go.Shelf.Ren:=⟨fun | 137=>132 | 217=>158 | 266=>196 | n=>n,fun | 9=>9 | 5=>5 | 3=>3 | n=>n,fun | n=>n⟩
theorem Tryz.QD:Go.Proofs.Lays.n137 Tryz.prog Tryz.CO:={
 mixed:=by kernel_rfl
 f137:= Tryz.func132.trans (congrArg some (by kernel_rfl))
 f217:= Tryz.func158.trans (congrArg some (by kernel_rfl))
 f266:= Tryz.func196.trans (congrArg some (by kernel_rfl))
 t3:= Tryz.underlying3
 a3:= Tryz.isAgg3
 z3:= Tryz.sizeOf3
 v3:= Tryz.zeroValue3
 t5:= Tryz.underlying5
 a5:= Tryz.isAgg5
 z5:= Tryz.sizeOf5
 v5:= Tryz.zeroValue5
 t9:= Tryz.underlying9
 a9:= Tryz.isAgg9
 z9:= Tryz.sizeOf9
 v9:= Tryz.zeroValue9}
def Tryz.BQ:Go.Shelf.Ren:=⟨fun | 100=>75 | 207=>130 | n=>n,fun | 9=>9 | 4=>4 | 3=>3 | n=>n,fun | n=>n⟩
theorem Tryz.QK:Go.Proofs.Lays.n100 Tryz.prog Tryz.BQ:={
 mixed:=by kernel_rfl
 f100:= Tryz.func75.trans (congrArg some (by kernel_rfl))
 f207:= Tryz.func130.trans (congrArg some (by kernel_rfl))
 t3:= Tryz.underlying3
 a3:= Tryz.isAgg3
 z3:= Tryz.sizeOf3
 v3:= Tryz.zeroValue3
 t4:= Tryz.underlying4
 a4:= Tryz.isAgg4
 z4:= Tryz.sizeOf4
 v4:= Tryz.zeroValue4
 t9:= Tryz.underlying9
 a9:= Tryz.isAgg9
 z9:= Tryz.sizeOf9
 v9:= Tryz.zeroValue9}
def Tryz.D2:Go.Shelf.Ren:=⟨fun | 102=>77 | 209=>133 | 207=>130 | n=>n,fun | 9=>9 | 4=>4 | 3=>3 | n=>n,fun | n=>n⟩
theorem Tryz.PY:Go.Proofs.Lays.n102 Tryz.prog Tryz.D2:={
 mixed:=by kernel_rfl
 f102:= Tryz.func77.trans (congrArg some (by kernel_rfl))
 f207:= Tryz.func130.trans (congrArg some (by kernel_rfl))
 f209:= Tryz.func133.trans (congrArg some (by kernel_rfl))
 t3:= Tryz.underlying3
 a3:= Tryz.isAgg3
 z3:= Tryz.sizeOf3
 v3:= Tryz.zeroValue3
 t4:= Tryz.underlying4
 a4:= Tryz.isAgg4
 z4:= Tryz.sizeOf4
 v4:= Tryz.zeroValue4
 t9:= Tryz.underlying9
 a9:= Tryz.isAgg9
 z9:= Tryz.sizeOf9
 v9:= Tryz.zeroValue9}
def Tryz.BX:Go.Shelf.Ren:=⟨fun | 144=>16 | 143=>47 | 219=>112 | 217=>158 | 225=>159 | 224=>160 | 267=>161 | 266=>196 | 314=>197 | n=>n,fun | 9=>9 | 4=>4 | 3=>3 | 5=>5 | 46=>175 | 146=>271 | 51=>52 | n=>n,fun | 1=>2 | n=>n⟩
theorem Tryz.PI:Go.Proofs.Lays.n144 Tryz.prog Tryz.BX:={
 mixed:=by kernel_rfl
 f143:= Tryz.func47.trans (congrArg some (by kernel_rfl))
 f144:= Tryz.func16.trans (congrArg some (by kernel_rfl))
 f217:= Tryz.func158.trans (congrArg some (by kernel_rfl))
 f219:= Tryz.func112.trans (congrArg some (by kernel_rfl))
 f224:= Tryz.func160.trans (congrArg some (by kernel_rfl))
 f225:= Tryz.func159.trans (congrArg some (by kernel_rfl))
 f266:= Tryz.func196.trans (congrArg some (by kernel_rfl))
 f267:= Tryz.func161.trans (congrArg some (by kernel_rfl))
 f314:= Tryz.func197.trans (congrArg some (by kernel_rfl))
 t3:= Tryz.underlying3
 a3:= Tryz.isAgg3
 z3:= Tryz.sizeOf3
 v3:= Tryz.zeroValue3
 t4:= Tryz.underlying4
 a4:= Tryz.isAgg4
 z4:= Tryz.sizeOf4
 v4:= Tryz.zeroValue4
 t5:= Tryz.underlying5
 a5:= Tryz.isAgg5
 z5:= Tryz.sizeOf5
 v5:= Tryz.zeroValue5
 t9:= Tryz.underlying9
 a9:= Tryz.isAgg9
 z9:= Tryz.sizeOf9
 v9:= Tryz.zeroValue9
 t46:= Tryz.underlying175
 a46:= Tryz.isAgg175
 z46:= Tryz.sizeOf175
 v46:= Tryz.zeroValue175
 t51:= Tryz.underlying52
 a51:= Tryz.isAgg52
 z51:= Tryz.sizeOf52
 v51:= Tryz.zeroValue52
 t146:= Tryz.underlying271
 a146:= Tryz.isAgg271
 z146:= Tryz.sizeOf271
 v146:= Tryz.zeroValue271
 g1:=by kernel_rfl}
def Tryz.DI:Go.Shelf.Ren:=⟨fun | 172=>24 | 244=>61 | 245=>62 | 247=>118 | 279=>119 | 280=>120 | 281=>121 | 282=>122 | 287=>168 | 316=>169 | 171=>14 | 205=>170 | 321=>201 | 322=>202 | 243=>43 | 246=>111 | 283=>154 | 284=>155 | 285=>156 | 286=>157 | 129=>193 | 317=>192 | 318=>194 | 319=>195 | 320=>147 | 337=>188 | 338=>189 | n=>n,fun | 9=>9 | 3=>3 | 75=>64 | 76=>65 | 4=>4 | 5=>5 | 167=>185 | 37=>68 | 0=>0 | 85=>186 | 2=>2 | 168=>188 | 53=>224 | 175=>247 | 46=>175 | 210=>251 | 127=>199 | 145=>279 | 143=>277 | 21=>21 | 171=>223 | 173=>227 | 212=>269 | 51=>52 | 20=>20 | 213=>270 | 232=>283 | 233=>284 | 80=>154 | n=>n,fun | 15=>3 | 16=>4 | 17=>5 | 18=>6 | 19=>7 | n=>n⟩
theorem Tryz.QY:Go.Proofs.Lays.n172 Tryz.prog Tryz.DI:={
 mixed:=by kernel_rfl
 f129:= Tryz.func193.trans (congrArg some (by kernel_rfl))
 f171:= Tryz.func14.trans (congrArg some (by kernel_rfl))
 f172:= Tryz.func24.trans (congrArg some (by kernel_rfl))
 f205:= Tryz.func170.trans (congrArg some (by kernel_rfl))
 f243:= Tryz.func43.trans (congrArg some (by kernel_rfl))
 f244:= Tryz.func61.trans (congrArg some (by kernel_rfl))
 f245:= Tryz.func62.trans (congrArg some (by kernel_rfl))
 f246:= Tryz.func111.trans (congrArg some (by kernel_rfl))
 f247:= Tryz.func118.trans (congrArg some (by kernel_rfl))
 f279:= Tryz.func119.trans (congrArg some (by kernel_rfl))
 f280:= Tryz.func120.trans (congrArg some (by kernel_rfl))
 f281:= Tryz.func121.trans (congrArg some (by kernel_rfl))
 f282:= Tryz.func122.trans (congrArg some (by kernel_rfl))
 f283:= Tryz.func154.trans (congrArg some (by kernel_rfl))
 f284:= Tryz.func155.trans (congrArg some (by kernel_rfl))
 f285:= Tryz.func156.trans (congrArg some (by kernel_rfl))
 f286:= Tryz.func157.trans (congrArg some (by kernel_rfl))
 f287:= Tryz.func168.trans (congrArg some (by kernel_rfl))
 f316:= Tryz.func169.trans (congrArg some (by kernel_rfl))
 f317:= Tryz.func192.trans (congrArg some (by kernel_rfl))
 f318:= Tryz.func194.trans (congrArg some (by kernel_rfl))
 f319:= Tryz.func195.trans (congrArg some (by kernel_rfl))
 f320:= Tryz.func147.trans (congrArg some (by kernel_rfl))
 f321:= Tryz.func201.trans (congrArg some (by kernel_rfl))
 f322:= Tryz.func202.trans (congrArg some (by kernel_rfl))
 f337:= Tryz.func188.trans (congrArg some (by kernel_rfl))
 f338:= Tryz.func189.trans (congrArg some (by kernel_rfl))
 t0:= Tryz.underlying0
 a0:= Tryz.isAgg0
 z0:= Tryz.sizeOf0
 v0:= Tryz.zeroValue0
 t2:= Tryz.underlying2
 a2:= Tryz.isAgg2
 z2:= Tryz.sizeOf2
 v2:= Tryz.zeroValue2
 t3:= Tryz.underlying3
 a3:= Tryz.isAgg3
 z3:= Tryz.sizeOf3
 v3:= Tryz.zeroValue3
 t4:= Tryz.underlying4
 a4:= Tryz.isAgg4
 z4:= Tryz.sizeOf4
 v4:= Tryz.zeroValue4
 t5:= Tryz.underlying5
 a5:= Tryz.isAgg5
 z5:= Tryz.sizeOf5
 v5:= Tryz.zeroValue5
 t9:= Tryz.underlying9
 a9:= Tryz.isAgg9
 z9:= Tryz.sizeOf9
 v9:= Tryz.zeroValue9
 t20:= Tryz.underlying20
 a20:= Tryz.isAgg20
 z20:= Tryz.sizeOf20
 v20:= Tryz.zeroValue20
 t21:= Tryz.underlying21
 a21:= Tryz.isAgg21
 z21:= Tryz.sizeOf21
 v21:= Tryz.zeroValue21
 t37:= Tryz.underlying68
 a37:= Tryz.isAgg68
 z37:= Tryz.sizeOf68
 v37:= Tryz.zeroValue68
 t46:= Tryz.underlying175
 a46:= Tryz.isAgg175
 z46:= Tryz.sizeOf175
 v46:= Tryz.zeroValue175
 t51:= Tryz.underlying52
 a51:= Tryz.isAgg52
 z51:= Tryz.sizeOf52
 v51:= Tryz.zeroValue52
 t53:= Tryz.underlying224
 a53:= Tryz.isAgg224
 z53:= Tryz.sizeOf224
 v53:= Tryz.zeroValue224
 t75:= Tryz.underlying64
 a75:= Tryz.isAgg64
 z75:= Tryz.sizeOf64
 v75:= Tryz.zeroValue64
 t76:= Tryz.underlying65
 a76:= Tryz.isAgg65
 z76:= Tryz.sizeOf65
 v76:= Tryz.zeroValue65
 t85:= Tryz.underlying186
 a85:= Tryz.isAgg186
 z85:= Tryz.sizeOf186
 v85:= Tryz.zeroValue186
 t127:= Tryz.underlying199
 a127:= Tryz.isAgg199
 z127:= Tryz.sizeOf199
 v127:= Tryz.zeroValue199
 t143:= Tryz.underlying277
 a143:= Tryz.isAgg277
 z143:= Tryz.sizeOf277
 v143:= Tryz.zeroValue277
 t145:= Tryz.underlying279
 a145:= Tryz.isAgg279
 z145:= Tryz.sizeOf279
 v145:= Tryz.zeroValue279
 t167:= Tryz.underlying185
 a167:= Tryz.isAgg185
 z167:= Tryz.sizeOf185
 v167:= Tryz.zeroValue185
 t168:= Tryz.underlying188
 a168:= Tryz.isAgg188
 z168:= Tryz.sizeOf188
 v168:= Tryz.zeroValue188
 t171:= Tryz.underlying223
 a171:= Tryz.isAgg223
 z171:= Tryz.sizeOf223
 v171:= Tryz.zeroValue223
 t173:= Tryz.underlying227
 a173:= Tryz.isAgg227
 z173:= Tryz.sizeOf227
 v173:= Tryz.zeroValue227
 t175:= Tryz.underlying247
 a175:= Tryz.isAgg247
 z175:= Tryz.sizeOf247
 v175:= Tryz.zeroValue247
 t210:= Tryz.underlying251
 a210:= Tryz.isAgg251
 z210:= Tryz.sizeOf251
 v210:= Tryz.zeroValue251
 t212:= Tryz.underlying269
 a212:= Tryz.isAgg269
 z212:= Tryz.sizeOf269
 v212:= Tryz.zeroValue269
 t213:= Tryz.underlying270
 a213:= Tryz.isAgg270
 z213:= Tryz.sizeOf270
 t232:= Tryz.underlying283
 a232:= Tryz.isAgg283
 z232:= Tryz.sizeOf283
 v232:= Tryz.zeroValue283
 t233:= Tryz.underlying284
 a233:= Tryz.isAgg284
 z233:= Tryz.sizeOf284
 v233:= Tryz.zeroValue284
 g15:=by kernel_rfl
 g16:=by kernel_rfl
 g17:=by kernel_rfl
 g18:=by kernel_rfl
 g19:=by kernel_rfl}
def Tryz.EF:Go.Shelf.Ren:=⟨fun | 103=>36 | 210=>83 | 206=>136 | n=>n,fun | 9=>9 | 4=>4 | 24=>89 | 3=>3 | n=>n,fun | n=>n⟩
theorem Tryz.PL:Go.Proofs.Lays.n103 Tryz.prog Tryz.EF:={
 mixed:=by kernel_rfl
 f103:= Tryz.func36.trans (congrArg some (by kernel_rfl))
 f206:= Tryz.func136.trans (congrArg some (by kernel_rfl))
 f210:= Tryz.func83.trans (congrArg some (by kernel_rfl))
 t3:= Tryz.underlying3
 a3:= Tryz.isAgg3
 z3:= Tryz.sizeOf3
 v3:= Tryz.zeroValue3
 t4:= Tryz.underlying4
 a4:= Tryz.isAgg4
 z4:= Tryz.sizeOf4
 v4:= Tryz.zeroValue4
 t9:= Tryz.underlying9
 a9:= Tryz.isAgg9
 z9:= Tryz.sizeOf9
 v9:= Tryz.zeroValue9
 t24:= Tryz.underlying89
 a24:= Tryz.isAgg89
 z24:= Tryz.sizeOf89
 v24:= Tryz.zeroValue89}
end Go.Proofs
end
section
set_option maxRecDepth 100000
set_option maxHeartbeats 4000000
namespace Go.Proofs.YtibffijhebobmaaGreatDoor
open Go.AF
open Go.Proofs
theorem mxl: Tryz.prog.globalNamed "internal/bytealg.MaxLen" =some 2:=by kernel_rfl
theorem Mb:(5,Lib.pow10Tab.map (PV.int .u64))∈nO Tryz.prog:=by
 have e:(nO Tryz.prog)[2]? =some (5,Lib.pow10Tab.map (PV.int .u64)):=by kernel_rfl
 exact Zh e
theorem Qy:(7,Bc.map (PV.int .u8))∈nO Tryz.prog:=by
 have e:(nO Tryz.prog)[1]? =some (7,Bc.map (PV.int .u8)):=by kernel_rfl
 exact Zh e
theorem lQ(n:Int)(h0:0<=n)(h1:n<10000000000000):Pure Tryz.prog 14 [.int .i64 n] (.str (sB (Lib.itoa n))):=
 Pure.sQ (us:=[.int .i64 n]) (fun w I vs h=>by
  obtain⟨u,us,rfl,h2,h3⟩:=h
  have h2:u= .int .i64 n:=h2
  have h3:us=[]:=h3
  rw[h2,h3]) fun w I hg=>(Any.strconv_Itoa Tryz.Nt n (by omega) (by omega) w (Tj (g:=5) hg Mb (by kernel_rfl))).mono fun e w' ⟨h1,k,os,h2⟩=>⟨_,h1,fun _ _=>rfl,k,os,h2⟩
theorem qQ{a b:ByteArray}:∀(w:World) (I:Nat->Prop) (vs:List Value),aQ w I [.str a,.str b] vs->vs=[.string a,.string b]:=fun w I vs h=>by
 obtain⟨u0,UX,rfl,k0,u1,Sn,rfl,k1,k2⟩:=h
 have k0:u0= .string a:=k0
 have k1:u1= .string b:=k1
 have k2:Sn=[]:=k2
 rw[k0,k1,k2]
theorem l9(s t:Bs)(hs:s.length<=9223372036854775807):Pure Tryz.prog 75 [.str (sB s),.str (sB t)] (.bool (t.isSuffixOf s)):=
 Pure.sQ (us:=[.string (sB s),.string (sB t)]) qQ fun w I hg=>(Any.strings_HasSuffix Tryz.QK (sB s) (sB t) w (by rw[cU];exact hs)).mono fun e w' ⟨h1,h2⟩=>⟨_,h1,fun _ _=>by show Value.bool _=_;rw[dQ,dQ];rfl,0,#[],by rw[h2,Go.Sort.grow_empty];rfl⟩
theorem xZ(s t:Bs)(hs:s.length<=9223372036854775807):Pure Tryz.prog 77 [.str (sB s),.str (sB t)] (.str (sB (Lib.trimSuffix s t))):=
 Pure.sQ (us:=[.string (sB s),.string (sB t)]) qQ fun w I hg=>(Any.strings_TrimSuffix Tryz.PY (sB s) (sB t) w (by rw[cU];exact hs)).mono fun e w' ⟨h1,h2⟩=>⟨_,h1,fun _ _=>by show Value.string _=_;rw[dQ,dQ];rfl,0,#[],by rw[h2,Go.Sort.grow_empty];rfl⟩
theorem zK(s:Bs)(c:UInt8):Pure Tryz.prog 132 [.str (sB s),.int .u8 (c.toNat:Int)] (.int .i64 (Lib.indexByte s c)):=
 Pure.sQ (us:=[.string (sB s),.int .u8 (c.toNat:Int)]) (fun w I vs h=>by
  obtain⟨u0,UX,rfl,k0,u1,Sn,rfl,k1,k2⟩:=h
  have k0:u0= .string (sB s):=k0
  have k1:u1= .int .u8 (c.toNat:Int):=k1
  have k2:Sn=[]:=k2
  rw[k0,k1,k2]) fun w I hg=>(Any.strings_IndexByte Tryz.QD (sB s) (c.toNat:Int) w).mono fun e w' ⟨h1,h2⟩=>⟨_,h1,fun _ _=>by
   show Value.int _ _=_
   rw[dQ,G7,show c.toNat.toUInt8=c from by simp],0,#[],by rw[h2,Go.Sort.grow_empty];rfl⟩
theorem yh(w:World)(I:Nat->Prop):∀ ss:List ByteArray,aQ w I (ss.map PV.str) (ss.map Value.string)
 | []=>rfl
 | x::xs=>⟨_,_,rfl,rfl,yh w I xs⟩
theorem Pure.TE{f:FuncId}{us:List Value}{args:List PV}{ss:List ByteArray}{t:TypeId}(cu:∀ w I vs,aQ w I args vs->vs=us)(h:∀(w:World) (I:Nat->Prop),JM Tryz.prog w I->Calls Tryz.prog f us.toArray w fun e w'=>e= .returned (.slice (some ⟨w.heap.size,0,none⟩) ss.length ss.length)∧w'=w.alloc (.cells (ss.map Value.string).toArray t)):Pure Tryz.prog f args (.is (ss.map PV.str) ss.length):=by
 intro w I ρ vs hi hvs
 have e:=cu w I vs (ah.pure.1 hvs)
 subst e
 refine CallsIn.mono ((callsIn_wide (n:=0)).2 (h w I hi.gl)) ?_
 rintro e w' ⟨rfl,rfl⟩
 refine⟨_,.p _,fun b=>I b∨b=w.heap.size,ρ,[],rfl,⟨rfl,rfl⟩,Ext.iy hi _,hi.iy _,?_⟩
 refine .inr ⟨w.heap.size,0,ss.length,fun _=> .inr rfl,Zf _,rfl,?_⟩
 refine aS.me (ss.map PV.str) (ss.map Value.string) 0 ?_ ?_
 ·exact yh _ _ ss
 ·intro j u hu
  have e:(w.alloc (.cells (ss.map Value.string).toArray t)).heap[w.heap.size]? =some (.cells (ss.map Value.string).toArray t):=Array.getElem?_push_size
  unfold World.cell?
  simp only[e,zq]
  simpa using hu
theorem Ej{c:UInt8}(ws:List Bs)(h0:0<ws.length)(h:∀ x∈ws,OY c x)(hs:(cQ c ws).length<=1000000):Pure Tryz.prog 84 [.str (sB (cQ c ws)),.str (sB [c]),.int .i64 0,.int .i64 (-1)] (.is ((ws.map sB).map PV.str) (ws.map sB).length):=by
 refine Pure.TE (us:=[.string (sB (cQ c ws)),.string (sB [c]),.int .i64 0,.int .i64 (-1)]) (t:=9) (fun w I vs h=>by
  obtain⟨u0,UX,rfl,k0,u1,Sn,rfl,k1,u2,vs2,rfl,k2,u3,vs3,rfl,k3,k4⟩:=h
  have k0:u0= .string (sB (cQ c ws)):=k0
  have k1:u1= .string (sB [c]):=k1
  have k2:u2= .int .i64 0:=k2
  have k3:u3= .int .i64 (-1):=k3
  have k4:vs3=[]:=k4
  rw[k0,k1,k2,k3,k4]) fun w I hg=> ?_
 have hsz:(sB (cQ c ws)).size<=1000000:=by rw[cU];exact hs
 have hL:=M1 ws h0 h
 have hcn:=KV ws h0 h
 have hle:=Ci (c:=c) ws
 have k:=Any.strings_genSplit_core Tryz.Rm (by kernel_rfl) (sB (cQ c ws)) (sB [c]) 0 (-1) ws.length w (by omega) (by show 1<=1;decide) (Zp _)
  (fun x cc hx=>(Any.strings_Index_one Tryz.Pz x c _).mono fun e w' ⟨h1,h2⟩=>⟨by rw[h1];show _=Ending.returned (.int .i64 (Lib.index x.data.toList (sB [c]).data.toList));rw[dQ,Lib.index_one],h2⟩)
  ((Any.strings_Count_one Tryz.Qq (sB (cQ c ws)) c w).mono fun e w' ⟨h1,h2⟩=>⟨by rw[h1];show _=Ending.returned (.int .i64 ((Lib.count (sB (cQ c ws)).data.toList [c]:Nat):Int));rw[Lib.count_one];rfl,h2⟩) (by decide) (by decide)
  (by rw[if_pos (by decide),hcn,cU];push_cast;omega)
 refine k.mono fun e w' ⟨h1,h2⟩=> ?_
 rw[hL] at h1 h2
 refine⟨?_,?_⟩
 ·rw[h1];simp
 ·rw[h2,show ws.length=(ws.map sB).length by simp,Lib.cellsOf_full];rfl
theorem MY(ws:List Bs):PV.is ((ws.map sB).map PV.str) (ws.map sB).length=cz ws:=by
 unfold cz
 rw[Zr,Re]
 congr 1
 induction ws with
 | nil=>rfl
 | cons x xs ih=>rw[ZD,ZI,ih];rfl
theorem aa0:Go.Proofs.Builder.Extra Tryz.prog Tryz.tF where
 sizeBuilder:=by kernel_rfl
 liesBuilder:=by kernel_rfl
 t5:= Tryz.underlying5
 a5:=run_isAgg_plain Tryz.underlying5 rfl
 z5:= Tryz.sizeOf5
 v5:= Tryz.zeroValue5
 infoByte:=by kernel_rfl
 cellsByte:=by kernel_rfl
 sizeByte:=by kernel_rfl
 neB5:=by decide
theorem wX{w:World}{I:Nat->Prop}:∀(ss:List ByteArray) (b o:Nat),aS w I (ss.map PV.str) b o->∀(j:Nat) x,ss[j]? =some x->w.cell? ⟨b,o+j,none⟩=some (.string x)
 | [],_,_,_,j,x,h=>by simp at h
 | y::ss,b,o,⟨⟨u,h1,h2⟩,h3⟩,j,x,h=>by
  cases j with
  | zero=>
   have h2:u= .string y:=h2
   simp at h
   rw[<- h,<- h2];exact h1
  | succ j=>
   have:=wX ss b (o+1) h3 j x (by simpa using h)
   rwa [show o+1+j=o+(j+1) by omega] at this
theorem oB(ws:List Bs)(c:UInt8)(h0:0<ws.length)(hl:ws.length<=1000000)(hs:(cQ c ws).length<=1000000):Pure Tryz.prog 134 [cz ws,.str (sB [c])] (.str (sB (cQ c ws))):=by
 rw[<- MY]
 intro w I ρ vs hi hvs
 obtain⟨u0,UX,rfl,k0,u1,Sn,rfl,k1,k2⟩:=ah.pure.1 hvs
 have k1:u1= .string (sB [c]):=k1
 have k2:Sn=[]:=k2
 subst k1 k2
 have hlen:(ws.map sB).length=ws.length:=Zr ..
 rcases k0 with⟨_,h⟩ | ⟨b,o,cap,hI,hcap,rfl,ef⟩
 ·omega
 ·have hne:(ws.map sB).map PV.str≠[]:=by intro e;have:=congrArg List.length e;simp at this;rw[this] at h0;cases h0
  have hbI:=hI hne
  have hj:Lib.join ((ws.map sB).map (·.data.toList)) (sB [c]).data.toList=cQ c ws:=by
   rw[dQ,Re,show((fun x:ByteArray=>x.data.toList)∘sB)=id from funext dQ,List.map_id,L7]
  refine CallsIn.mono ((callsIn_wide (n:=0)).2 (Any.strings_Join Tryz.QS aa0 b o cap (ws.map sB) (sB [c]) w (wX _ _ _ ef) (hi.ib _ hbI) (by omega) hcap (by rw[hj];omega))) ?_
  rintro e w' ⟨rfl,hb⟩
  obtain⟨h1,h2⟩:=Ext.below hi hb
  refine⟨_,.p _,I,ρ,[],rfl,⟨rfl,rfl⟩,h1,h2,?_⟩
  show Value.string _=_
  rw[hj]
  rfl
end Go.Proofs.YtibffijhebobmaaGreatDoor
end
section
set_option maxRecDepth 100000
set_option maxHeartbeats 4000000
namespace Go.Proofs.YtibffijhebobmaaGreatDoor
open Go.AF
theorem xo(e:Int):Pure Tryz.prog 40 [.bool true,.int .i64 e] (.tuple []):=by
 refine Kf (N:=9) Tryz.func40 ?_
 iterate 5 refine af ?_
 refine aF.nJ rfl ?_
 refine af ?_
 exact⟨.inl rfl,eX.none_ rfl⟩
theorem Qh(e:Int):tI Tryz.prog 40 [.bool false,.int .i64 e] (.iface 94 (.agg [.int .i64 e])):=by
 refine ay.start (N:=9) Tryz.func40 rfl rfl Kn ?_
 iterate 5 refine af ?_
 refine aF.yx rfl ?_
 iterate 3 refine af ?_
 refine Kc (aa.aG rfl rfl SV) ?_
 refine aj.panic rfl rfl rfl ?_
 exact⟨_,rfl,rfl⟩
theorem dn(b:Bool)(e:Int)(hb:b=true):Pure Tryz.prog 40 [.bool b,.int .i64 e] (.tuple []):=by subst hb;exact xo e
theorem dj(b:Bool)(e:Int)(hb:b=false):tI Tryz.prog 40 [.bool b,.int .i64 e] (.iface 94 (.agg [.int .i64 e])):=by subst hb;exact Qh e
theorem j6(e:Int)(he:decide (e=0)=true):Pure Tryz.prog 95 [.int .i64 e] (.tuple []):=by
 refine Kf (N:=6) Tryz.func95 ?_
 iterate 4 refine af ?_
 refine aj.ct 5 (b:=(decide (e=0))) (dn (decide (e=0)) e) (dj (decide (e=0)) e) rfl rfl rfl rfl rfl rfl rfl an (fun hb=> ?_) (fun hb=> ?_)
 ·rw[he] at hb
  cases hb
 refine af ?_
 exact⟨.inl rfl,eX.none_ rfl⟩
theorem oL(e:Int)(he:decide (e=0)=false):tI Tryz.prog 95 [.int .i64 e] (.iface 94 (.agg [.int .i64 e])):=by
 refine ay.start (N:=6) Tryz.func95 rfl rfl Kn ?_
 iterate 4 refine af ?_
 refine aj.ct 5 (b:=(decide (e=0))) (dn (decide (e=0)) e) (dj (decide (e=0)) e) rfl rfl rfl rfl rfl rfl rfl an (fun hb=> ?_) (fun hb=> ?_)
 ·exact⟨_,rfl,rfl⟩
 rw[he] at hb
 cases hb
theorem Qk(l:List Int)(k:Nat)(hk:k=l.length)(h2:2<=l.length):Pure Tryz.prog 140 [.is (l.flatMap Di.bZ) k] (.agg [.int .i64 (nn l 0),.int .i64 (nn l 1)]):=by
 subst hk
 refine Kf (N:=10) Tryz.func140 ?_
 iterate 5 refine af ?_
 refine aF.aB 7 mixed (by kernel_rfl) (by decide) ?_
 refine af ?_
 refine Kq (aa.aP (g:=Di.gt 0 l) (k:=0) (Di.aE _) rfl rfl rfl an dF rfl (fun _=>rfl) (by decide) (by omega)) ?_
 refine Kq (Kl (.p (.int .i64 (nn l 0)))) ?_
 refine af ?_
 refine Kq (aa.aP (g:=Di.gt 0 l) (k:=1) (Di.aE _) rfl rfl rfl an dF rfl (fun _=>rfl) (by decide) (by omega)) ?_
 refine Kq (Kl (.p (.int .i64 (nn l 1)))) ?_
 refine Kq (aa.build rfl an rfl rfl) ?_
 refine av.nil ?_
 exact vJ
theorem HZ(a b:Int):Pure Tryz.prog 142 [.int .i64 a,.int .i64 b] (.agg (bX a b).cells):=by
 refine Kf (N:=10) Tryz.func142 ?_
 iterate 14 refine af ?_
 exact Fin.one rfl (⟨_,_,_,rfl,an,rfl⟩)
theorem Pv(n k:Nat)(h0:0<n)(h:n<2^32)(hl:n&&& (2^64 - n)=2^k)(hk:k<64):Pure Tryz.prog 189 [.int .u64 (n:Int)] (.int .i64 ((k:Nat):Int)):=by
 have hT:(Bc.map (PV.int .u8))[(((2^k*285870213051353865%18446744073709551616 / 2^58:Nat):Int)).toNat*1]? =some (.int .u8 ((k:Nat):Int)):=by rw[Ks,G7,Zs,K5 k hk];rfl
 refine Kf (N:=14) Tryz.func189 ?_
 iterate 10 refine af ?_
 refine Ki (fun hc0=> ?_) fun hc0=> ?_
 ·exfalso
  simp at hc0
  omega
 ·iterate 5 refine af ?_
  refine Kc (aa.neg (m:=((2^64 - n:Nat):Int)) rfl rfl ?_) ?_
  ·exact VP h0 h
  refine Kc (aa.pR n (2^64 - n) rfl rfl rfl (by first | (show _<=(9223372036854775807:Int);omega) | (show _<=(4294967295:Int);omega) | (show _<=(18446744073709551615:Int);omega) | (show _<=(255:Int);omega) | (show _<=(65535:Int);omega)) (by first | decide | (show _<=(9223372036854775807:Int);omega) | (show _<=(4294967295:Int);omega) | (show _<=(18446744073709551615:Int);omega) | (show _<=(255:Int);omega) | (show _<=(65535:Int);omega))) ?_
  rw[hl]
  refine Kc (aa.mul (m:=((2^k*285870213051353865%18446744073709551616:Nat):Int)) rfl rfl rfl ?_) ?_
  ·exact Vw k
  refine Kc (aa.xS (2^k*285870213051353865%18446744073709551616) 58 rfl rfl rfl (by first | decide | (show _<=(9223372036854775807:Int);omega) | (show _<=(4294967295:Int);omega) | (show _<=(18446744073709551615:Int);omega) | (show _<=(255:Int);omega) | (show _<=(65535:Int);omega))) ?_
  refine Kc (aa.yy (SD:=Bc.map (PV.int .u8)) Qy rfl rfl WU WC (by omega) (by omega)) ?_
  exact BH
theorem Lf(n k:Nat)(h0:0<n)(h:n<2^32)(hl:n&&& (2^64 - n)=2^k)(hk:k<64):Pure Tryz.prog 147 [.int .u64 (n:Int)] (.int .i64 ((k:Nat):Int)):=by
 refine Kf (N:=8) Tryz.func147 ?_
 iterate 5 refine af ?_
 refine aF.nJ rfl ?_
 iterate 4 refine af ?_
 refine Kc (Kp (Pv n k h0 h hl hk)) ?_
 exact dO
theorem pK(n:Nat)(hn:n<2^24):Pure Tryz.prog 96 [.int .i64 (n:Int)] (Di.bh (jm n)):=by
 have nK:(2:Nat)^24=16777216:=by decide
 have h32:(2:Nat)^32=4294967296:=by decide
 have aad:n<2^32:=by omega
 refine Kf (N:=19) Tryz.func96 ?_
 iterate 12 refine af ?_
 refine Kc (aa.dS rfl rfl (by rw[B0];rfl) CK (mY ?_)) ?_
 ·omega
 iterate 3 refine af ?_
 refine aF.eU [2,18] (fun g=>[(4,.p (.int .u64 ((Rx.qG n g:Nat):Int))),(3,hO 0 (bl n g).length)]) (fun g=>[dA (((bl n g).flatMap Di.bZ).map .p) 3 (bl n g).length]) (fun g=>g<=32) (fun g=>32 - g) 0 (Zp _) (To.pad.trans (To.sub (Sub.zY (Sub.cons (by show some (V.p (.int .u64 ((n:Nat):Int)))=_;rw[Rx.GV]) (Sub.cons rfl Sub.nil))))) (fun p hp=> ?_)
 have hle:=Rx.SH n p
 iterate 6 refine af ?_
 refine Ki (fun hc0=> ?_) fun hc0=> ?_
 ·have hne:Rx.qG n p≠0:=by intro h;rw[h] at hc0;simp at hc0
  obtain⟨k,hpk,Tp,hlow,TU,Mv⟩:=Rx.HJ aad hp hne
  iterate 6 refine af ?_
  refine Kc (Kp (Lf (Rx.qG n p) k (by omega) (by omega) (YK hne (by omega) hlow) (by omega))) ?_
  refine Kc (aa.aR rfl an (by decide) rfl rfl rfl) ?_
  refine Kc (aa.iG rfl rfl rfl an an rfl ?_ rfl (by decide) rfl an (by decide) ?_) ?_
  ·exact kB
  ·have:=Uv n p;show(2*((bl n p).length+1)+192)*8<=281474976710656;omega
  iterate 5 refine af ?_
  refine Kc (aa.fN (m:=((Rx.qG n p - 1:Nat):Int)) rfl rfl rfl ((mY ?_).trans ?_)) ?_
  ·omega
  ·omega
  refine Kc (aa.pR (Rx.qG n p) (Rx.qG n p - 1) rfl rfl rfl (by first | (show _<=(9223372036854775807:Int);omega) | (show _<=(4294967295:Int);omega) | (show _<=(18446744073709551615:Int);omega) | (show _<=(255:Int);omega) | (show _<=(65535:Int);omega)) (by first | decide | (show _<=(9223372036854775807:Int);omega) | (show _<=(4294967295:Int);omega) | (show _<=(18446744073709551615:Int);omega) | (show _<=(255:Int);omega) | (show _<=(65535:Int);omega))) ?_
  iterate 2 refine af ?_
  refine⟨k+1,?_,?_,?_⟩
  ·show k+1<=32
   omega
  ·show 32 - (k+1)<32 - p
   omega
  have Wu:(bl n (k+1)).length=(bl n p).length+1:=by unfold bl;rw[Mv];simp
  have eL:(bl n (k+1)).flatMap Di.bZ=(bl n p).flatMap Di.bZ++[.int .i64 (k:Int)]:=by unfold bl;rw[Mv];simp[Di.bZ]
  rw[Wu,eL]
  refine To.done [1] rfl (Sub.cons (by show some (V.p (.int .u64 _))=_;rw[TU]) KS) ?_
  show[ai.row (bw _ (_++_)) _]=[ai.row _ _]
  rw[bF,aX,ZC]
  rfl
 ·have hz:Rx.qG n p=0:=by have h:((Rx.qG n p:Nat):Int)=0:=(by simpa using hc0);omega
  have hall:=Rx.HR hp hz
  refine aF.to (To.U6 3 0 (bl n p).length (xs:=(bl n p).flatMap Di.bZ) rfl rfl (fun h=>by rw[KJ.1 h];rfl)) ?_
  refine aF.exit ?_
  iterate 6 refine af ?_
  refine Fin.gL rfl rfl ?_
  rw[Jq hn,hall]
  rfl
theorem yF(s:Bs)(hs:s.length<=1000000):ay Tryz.prog 110 [.p (.str (sB s))] [] (fun v H2=>gV s∧v= .p (.int .i64 (fJ s))∧H2=[]) (fun y H2=>¬ gV s∧y=(.iface 94 (.agg [.int .i64 8]))∧H2=[]):=by
 refine ay.start (N:=44) Tryz.func110 rfl rfl Kn ?_
 iterate 7 refine af ?_
 refine Kc (aa.mQ s [] rfl rfl rfl) ?_
 refine af ?_
 refine Kg 8 7 0 rfl (fun h=>(aa.move rfl rfl)) ?_
 refine Kh 9 7 8 rfl rfl rfl rfl (fun h=>(aa.gw rfl rfl EV)) ?_
 refine Kh 10 7 9 rfl rfl rfl rfl (fun h=>(aa.leq rfl rfl rfl)) ?_
 refine Kc (aa.ec rfl rfl rfl ?_) ?_
 ·exact ax
 refine af ?_
 refine Kg 13 12 0 rfl (fun h=>(aa.move rfl rfl)) ?_
 refine Kh 14 12 13 rfl rfl rfl rfl (fun h=>(aa.dJ s [48] rfl rfl rfl)) ?_
 refine Kh 15 12 14 rfl rfl rfl rfl (fun h=>(aa.move rfl rfl)) ?_
 refine Kg 16 15 0 rfl (fun h=>(aa.move rfl rfl)) ?_
 refine Kh 17 15 16 rfl rfl rfl rfl (fun h=>(aa.yf s 0 (Di.gt 0 s 0) rfl rfl rfl an (by have h2:=(Bool.and_eq_true_iff.1 h).1;have h3:=(Bool.and_eq_true_iff.1 (eq_of_beq h2)).1;have h4:s≠[]:=(by simpa using h3);have h5:=List.length_pos_iff.2 h4;rw[Zb h5,Di.aE 0 0 h5]))) ?_
 refine Kh 18 15 17 rfl rfl rfl rfl (fun h=>(aa.neq rfl rfl rfl)) ?_
 refine aj.g 19 12 rfl rfl rfl rfl rfl rfl rfl [(15,_),(18,_)] (fun h=>And.intro (.inr ⟨_,rfl,h⟩) (And.intro (.inl rfl) (trivial))) (fun h=>(aa.kA rfl rfl rfl ?_)) ?_
 ·exact ax
 refine Kc (aa.ec rfl rfl rfl ?_) ?_
 ·exact ax
 refine aj.ct 21 (b:=_) (dn _ 8) (dj _ 8) rfl rfl rfl rfl rfl rfl rfl an (fun hb=> ?_) (fun hb=> ?_)
 ·exact⟨_,rfl,(Yf hb).2 rfl,rfl,rfl⟩
 have hy:=(Yf hb).1 rfl
 have Wd:=hy.2.1
 iterate 5 refine af ?_
 refine Kc (aa.isR (aa.Mo s rfl rfl an an) (HN s)) ?_
 iterate 4 refine af ?_
 refine aF.eU [23,24,43] (fun g=>[(25,.p (.int .i64 ((g:Nat):Int))),(2,.p (.int .i64 ((mj (s.take g):Nat):Int)))]) (fun g=>[]) (fun g=>g<=s.length∧∀ j,j<g->pF (Di.gt 0 s j)=true) (fun g=>s.length - g) 0 ⟨Zp _,fun j hj=>absurd hj (by omega)⟩ (To.sub (Sub.zY (Sub.cons rfl (Sub.cons rfl (Sub.nil))))) (fun i ⟨zE,nk⟩=> ?_)
 iterate 5 refine af ?_
 refine Ki (fun hc0=> ?_) fun hc0=> ?_
 ·have hk0:i<s.length:=by have h:=Zg hc0;omega
  have hb9:=(Di.gt 0 s i).toNat_lt
  iterate 5 refine af ?_
  refine Kc (aa.aP (g:=Di.gt 0 s) (Di.aE _) rfl rfl rfl an aan rfl (fun _=>rfl) (by decide) hk0) ?_
  refine Kc (Kl (.p (.int .u8 (((Di.gt 0 s i)).toNat:Int)))) ?_
  iterate 7 refine af ?_
  refine Kg 32 31 4 rfl (fun h=>(aa.move rfl rfl)) ?_
  refine Kh 33 31 32 rfl rfl rfl rfl (fun h=>(aa.leq rfl rfl rfl)) ?_
  refine Kc (aa.ec rfl rfl rfl ?_) ?_
  ·exact ax
  refine aj.ct 35 (b:=_) (dn _ 8) (dj _ 8) rfl rfl rfl rfl rfl rfl rfl an (fun iW=> ?_) (fun iW=> ?_)
  ·exact⟨_,rfl,GA hk0 (MW iW),rfl,rfl⟩
  have Wx:=MW iW
  have hdd:=vi Wx
  have hvs:=xx hk0
  have hv:=wN (s:=s) (i:=i) (by omega) Wd nk
  iterate 3 refine af ?_
  refine Kc (aa.mul (m:=((10*mj (s.take i):Nat):Int)) rfl rfl rfl ((aI ?_).trans ?_)) ?_
  ·omega
  ·omega
  refine af ?_
  refine Kc (aa.fN (m:=((((Di.gt 0 s i)).toNat - 48:Nat):Int)) rfl rfl rfl ((Z4 ?_).trans ?_)) ?_
  ·omega
  ·omega
  refine Kc (aa.dS rfl rfl (by rw[un5];rfl) B0 (aI ?_)) ?_
  ·omega
  refine Kc (aa.add (m:=((mj (s.take (i+1)):Nat):Int)) rfl rfl rfl ((aI ?_).trans ?_)) ?_
  ·omega
  ·omega
  iterate 3 refine af ?_
  refine Kc (aa.add rfl rfl rfl (aI ?_)) ?_
  ·omega
  iterate 2 refine af ?_
  refine⟨i+1,?_,?_,?_⟩
  ·exact Eu
  ·omega
  exact To.done [] rfl KS rfl
 ·have hi2:i=s.length:=by have h:=Zk hc0;omega
  subst hi2
  have hC:=K4 hy nk
  have hyes:=ux hC
  refine aF.exit ?_
  iterate 6 refine af ?_
  refine iR.one (v:= .p (.int .i64 ((mj (s.take s.length):Nat):Int))) rfl rfl ⟨hC,?_,rfl⟩
  unfold fJ
  rw[hyes,ZV]
  rfl
instance (s:Bs):Decidable (gV s):=by unfold gV;infer_instance
theorem Bo(s:Bs)(hs:s.length<=1000000)(h:decide (gV s)=true):Pure Tryz.prog 110 [.str (sB s)] (.int .i64 (fJ s)):=
 ((yF s hs).mono (Xv:=fun v H2=>v= .p (.int .i64 (fJ s))∧H2=[]) (X3:=fun _ _=>False) (fun v H2 ⟨_,h1,h2⟩=>⟨h1,h2⟩) (fun y H2 ⟨h1,_⟩=>h1 (Zg h))).toC (fun _ _ h=>h)
theorem Nc(s:Bs)(hs:s.length<=1000000)(h:decide (gV s)=false):tI Tryz.prog 110 [.str (sB s)] (.iface 94 (.agg [.int .i64 8])):=
 (yF s hs).mono (fun v H2 ⟨h1,_⟩=>Zk h h1) (fun y H2 ⟨_,h1,_⟩=>h1)
def jd.v:jd->PV
 | .str w=> .iface 9 (.str (sB w))
 | .num k=> .iface 3 (.int .i64 k)
 | .FW l=> .iface 35 (Di.bh l)
def jd.v1(p:jd):List PV:=[p.v]
def XC(l:List jd):PV:= .is (l.flatMap jd.v1) l.length
theorem abb(p:jd):Gt Tryz.prog 9 p.v (.tuple [.str (sB p.sV),.bool p.O6]):=by
 cases p with
 | str l=>exact⟨_,_,rfl,.inl ⟨rfl,rfl⟩⟩
 | num i=>exact⟨_,_,rfl,.inr ⟨rfl,_,an,rfl⟩⟩
 | FW s=>exact⟨_,_,rfl,.inr ⟨rfl,_,an,rfl⟩⟩
theorem aaI(p:jd):Gt Tryz.prog 3 p.v (.tuple [.int .i64 p.nV,.bool p.isN]):=by
 cases p with
 | str l=>exact⟨_,_,rfl,.inr ⟨rfl,_,an,rfl⟩⟩
 | num i=>exact⟨_,_,rfl,.inl ⟨rfl,rfl⟩⟩
 | FW s=>exact⟨_,_,rfl,.inr ⟨rfl,_,an,rfl⟩⟩
theorem aaw(p:jd):Gt Tryz.prog 35 p.v (.tuple [p.lV,.bool p.Z6]):=by
 cases p with
 | str l=>exact⟨_,_,rfl,.inr ⟨rfl,_,an,rfl⟩⟩
 | num i=>exact⟨_,_,rfl,.inr ⟨rfl,_,an,rfl⟩⟩
 | FW s=>exact⟨_,_,rfl,.inl ⟨rfl,rfl⟩⟩
theorem W6{p:jd}(h:p.O6=true):p= .str p.sV:=by cases p <;> first | rfl | cases h
theorem Sz{p:jd}(h:p.isN=true):p= .num p.nV:=by cases p <;> first | rfl | cases h
theorem Y4{p:jd}(h:p.Z6=true):∃ l,p= .FW l:=by cases p <;> first | exact⟨_,rfl⟩ | cases h
theorem P8{p:jd}(h1:p.O6=false)(h2:p.isN=false)(h3:p.Z6=false):False:=by cases p <;> simp_all [jd.O6,jd.isN,jd.Z6]
theorem ry(s:Bs)(hs:s.length<=1000000):Pure Tryz.prog 38 [.str (sB s),.str (sB [32])] (cz (bf s)):=by
 have hj:cQ 32 (bf s)=s:=qB 32 s []
 have hnb:∀ x∈bf s,OY 32 x:=Ag 32 s [] (fun y hy=>by cases hy)
 have hg:=Ej (bf s) (ou s) hnb (by rw[hj];exact hs)
 rw[hj,MY] at hg
 refine Kf (N:=8) Tryz.func38 ?_
 iterate 8 refine af ?_
 refine Kc (Kp (hg)) ?_
 exact dO
theorem de(ps:List jd)(h0:0<(jJ ps).length)(hn:ps.length<=50)(hok:∀ p∈ps,p.ok):Pure Tryz.prog 78 [XC ps] (.str (sB (cQ 32 (jJ ps)))):=by
 have nA:=GL hok
 have hwB:=YZ hok
 refine Kf (N:=51) Tryz.func78 ?_
 iterate 16 refine af ?_
 refine aF.eU [2,11,12,49,50] (fun g=>[(13,.p (.int .i64 ((g:Nat):Int))),(3,hO 0 (jJ (ps.take g)).length)]) (fun g=>[dA ((((jJ (ps.take g))).flatMap je).map .p) 9 ((jJ (ps.take g))).length]) (fun g=>g<=ps.length) (fun g=>ps.length - g) 0 (Zp _) (To.pad.trans (To.sub (Sub.zY (Sub.cons rfl (Sub.cons rfl Sub.nil))))) (fun i hg=> ?_)
 iterate 5 refine af ?_
 refine Ki (fun hc0=> ?_) fun hc0=> ?_
 ·have hk0:i<ps.length:=by have h:=Zg hc0;omega
  have hpm:=hok _ (Di.bN (.str []) hk0)
  have hwi:=Nl ps i
  iterate 5 refine af ?_
  refine Kc (aa.aP (g:=Di.gt (.str []) ps) (Di.aE _) rfl rfl rfl an XX rfl (fun _=>rfl) (by decide) hk0) ?_
  refine Kc (Kl (.p (Di.gt (.str []) ps i).v)) ?_
  iterate 9 refine af ?_
  refine Kc (aa.taG rfl rfl mh (abb _)) ?_
  iterate 3 refine af ?_
  refine Ki (fun cK=> ?_) fun cK=> ?_
  ·iterate 7 refine af ?_
   refine Kc (aa.aR rfl an (by decide) rfl rfl rfl) ?_
   refine Kc (aa.iG rfl rfl rfl an an rfl ?_ rfl (by decide) rfl an (by decide) ?_) ?_
   ·exact kB
   ·(try simp only[Zc,Zr]);show(2*(_+1)+192)*16<=281474976710656;omega
   iterate 3 refine af ?_
   refine Kc (aa.add rfl rfl rfl (aI ?_)) ?_
   ·omega
   iterate 2 refine af ?_
   refine⟨i+1,?_,?_,?_⟩
   ·exact hk0
   ·omega
   have eW:(jJ (ps.take (i+1)))=(jJ (ps.take i))++[(Di.gt (.str []) ps i).sV]:=by rw[Ab hk0];(conv=>lhs;rw[W6 cK]);rfl
   have Wu:((jJ (ps.take (i+1)))).length=((jJ (ps.take i))).length+1:=by rw[eW,Zc];rfl
   have eL:((jJ (ps.take (i+1)))).flatMap je=((jJ (ps.take i))).flatMap je++je (Di.gt (.str []) ps i).sV:=by rw[eW,Hp];simp
   exact rH
  ·iterate 2 refine af ?_
   refine Kc (aa.taG rfl rfl ku (aaI _)) ?_
   iterate 3 refine af ?_
   refine Ki (fun jb=> ?_) fun jb=> ?_
   ·have hkn:0<=(Di.gt (.str []) ps i).nV∧(Di.gt (.str []) ps i).nV<10000000000000:=by rw[Sz jb] at hpm;exact hpm
    iterate 7 refine af ?_
    refine Kc (Kp (lQ (Di.gt (.str []) ps i).nV (by omega) (by omega))) ?_
    refine Kc (aa.aR rfl an (by decide) rfl rfl rfl) ?_
    refine Kc (aa.iG rfl rfl rfl an an rfl ?_ rfl (by decide) rfl an (by decide) ?_) ?_
    ·exact kB
    ·(try simp only[Zc,Zr]);show(2*(_+1)+192)*16<=281474976710656;omega
    iterate 3 refine af ?_
    refine Kc (aa.add rfl rfl rfl (aI ?_)) ?_
    ·omega
    iterate 2 refine af ?_
    refine⟨i+1,?_,?_,?_⟩
    ·exact hk0
    ·omega
    have eW:(jJ (ps.take (i+1)))=(jJ (ps.take i))++[(Lib.itoa (Di.gt (.str []) ps i).nV)]:=by rw[Ab hk0];(conv=>lhs;rw[Sz jb]);rfl
    have Wu:((jJ (ps.take (i+1)))).length=((jJ (ps.take i))).length+1:=by rw[eW,Zc];rfl
    have eL:((jJ (ps.take (i+1)))).flatMap je=((jJ (ps.take i))).flatMap je++je (Lib.itoa (Di.gt (.str []) ps i).nV):=by rw[eW,Hp];simp
    exact rH
   ·iterate 2 refine af ?_
    refine Kc (aa.taG rfl rfl GY (aaw _)) ?_
    iterate 3 refine af ?_
    refine Ki (fun mc=> ?_) fun mc=> ?_
    ·obtain⟨l,el⟩:=Y4 mc
     rw[show(Di.gt (.str []) ps i).lV=Di.bh l by rw[el];rfl]
     have hlo:l.length<=100∧∀ k∈l,0<=k∧k<10000000000000:=by rw[el] at hpm;exact hpm
     iterate 11 refine af ?_
     refine aF.eU [2,5,6,7,8,11,12,13,14,15,16,17,18,19,20,21,22,23,24,25,26,27,28,29,30,31,32,33,34,35,36,37,48,49,50] (fun g=>[(38,.p (.int .i64 ((g:Nat):Int))),(3,hO 0 (jJ (ps.take i)++(l.take g).map Lib.itoa).length)]) (fun g=>[dA ((((jJ (ps.take i)++(l.take g).map Lib.itoa)).flatMap je).map .p) 9 ((jJ (ps.take i)++(l.take g).map Lib.itoa)).length]) (fun g=>g<=l.length) (fun g=>l.length - g) 0 (Zp _) (To.xO (To.sub (Sub.zY (Sub.cons rfl (Sub.cons (by rw[Mq,C5,ZX];rfl) Sub.nil)))) (by rw[Mq,C5,ZX])) (fun j hj=> ?_)
     iterate 5 refine af ?_
     refine Ki (fun tY=> ?_) fun tY=> ?_
     ·have YS:j<l.length:=by have h:=Zg tY;omega
      have hkj:=hlo.2 _ (Di.bN 0 YS)
      have hlt:(l.take j).length<=j:=List.length_take_le j l
      iterate 5 refine af ?_
      refine Kc (aa.aP (g:=Di.gt 0 l) (k:=j) (Di.aE _) rfl rfl rfl an dF rfl (fun _=>rfl) (by decide) YS) ?_
      refine Kc (Kl (.p (.int .i64 (Di.gt 0 l j)))) ?_
      iterate 5 refine af ?_
      refine Kc (Kp (lQ (Di.gt 0 l j) (by omega) (by omega))) ?_
      refine Kc (aa.aR rfl an (by decide) rfl rfl rfl) ?_
      refine Kc (aa.iG rfl rfl rfl an an rfl ?_ rfl (by decide) rfl an (by decide) ?_) ?_
      ·exact kB
      ·(try simp only[Zc,Zr]);show(2*(_+1)+192)*16<=281474976710656;omega
      iterate 3 refine af ?_
      refine Kc (aa.add (m:=((j+1:Nat):Int)) rfl rfl rfl ((aI ?_).trans ?_)) ?_
      ·omega
      ·omega
      iterate 2 refine af ?_
      refine⟨j+1,?_,?_,?_⟩
      ·exact YS
      ·omega
      have eW:(jJ (ps.take i)++(l.take (j+1)).map Lib.itoa)=(jJ (ps.take i)++(l.take j).map Lib.itoa)++[(Lib.itoa (Di.gt 0 l j))]:=by rw[ZT YS,Di.aE 0 j YS,ZC,<- ZQ];rfl
      have Wu:((jJ (ps.take i)++(l.take (j+1)).map Lib.itoa)).length=((jJ (ps.take i)++(l.take j).map Lib.itoa)).length+1:=by rw[eW,Zc];rfl
      have eL:((jJ (ps.take i)++(l.take (j+1)).map Lib.itoa)).flatMap je=((jJ (ps.take i)++(l.take j).map Lib.itoa)).flatMap je++je (Lib.itoa (Di.gt 0 l j)):=by rw[eW,Hp];simp
      exact rH
     ·have hj2:j=l.length:=by have h:=Zk tY;omega
      subst hj2
      refine aF.exit ?_
      refine af ?_
      refine Kc (aa.add rfl rfl rfl (aI ?_)) ?_
      ·omega
      iterate 2 refine af ?_
      refine⟨i+1,?_,?_,?_⟩
      ·exact hk0
      ·omega
      have eP:jJ (ps.take (i+1))=jJ (ps.take i)++(l.take l.length).map Lib.itoa:=by rw[Ab hk0,el,ZV];rfl
      rw[eP]
      exact To.sub KS
    ·exact(P8 cK jb mc).elim
 ·have hi2:i=ps.length:=by have h:=Zk hc0;omega
  subst hi2
  refine aF.to (To.U6 3 0 (jJ (ps.take ps.length)).length (xs:=(jJ (ps.take ps.length)).flatMap je) rfl rfl (fun h=>by rw[KJ.1 h];rfl)) ?_
  rw[ZV]
  refine aF.exit ?_
  iterate 3 refine af ?_
  refine Kc (Kp (oB (jJ ps) 32 h0 (by omega) (by have:=N3 (c:=32) _ hwB;omega))) ?_
  exact lp
def uO(ws:List Bs):List (List V):=ws.map fun w=>[.p (.int .i64 (fJ w))]
theorem GB{ws:List Bs}{i:Nat}(h:i<ws.length):(uO ws)[i]? =some [V.p (.int .i64 (fJ (Di.gt [] ws i)))]:=by
 unfold uO
 rw[Zs,Zb h,Di.aE [] i h];rfl
theorem uU(ws:List Bs):Pure Tryz.prog 42 [cz ws] (.func (.func 109) [] [.ip [cz ws] 0]):=by
 refine Kf (N:=4) Tryz.func42 ?_
 exact uM
theorem Lv(ws:List Bs)(hl:ws.length<=1000000)(hw:∀ w∈ws,w.length<=1000000)(hC:∀ w∈ws,gV w):LR Tryz.prog 109 (fun y=>[y,.p (.ip [cz ws] 0)]) (uO ws):=by
 intro l κ nn inv fin hκ Uc FD hb h0 uV
 refine j4.ir (N:=17) Tryz.func109 rfl rfl Kn ?_
 iterate 2 refine af ?_
 refine Kc (Kl (.p (cz ws))) ?_
 iterate 4 refine af ?_
 refine aF.tM [4,7,8,9,10,11,12,13,14,15,16] (fun g=>[(7,.p (.int .i64 ((g.1:Nat):Int)))]) (fun g=>g.2) (fun g=>g.1<=ws.length∧inv g.1 g.2) (fun g=>ws.length - g.1) (0,h0) ⟨Zp _,uV⟩ (To.sub (Sub.SK (Sub.cons rfl Sub.nil))) (fun g hg=> ?_)
 obtain⟨i,Lh⟩:=g
 obtain⟨hle,hinv⟩:=hg
 dsimp only at hle hinv ⊢
 iterate 5 refine af ?_
 refine Ki (fun hc0=> ?_) fun hc0=> ?_
 ·have hk0:i<ws.length:=by have h:=Zg hc0;omega
  have hm:=Di.bN [] hk0
  iterate 5 refine af ?_
  refine Kc (aa.aP (g:=Di.gt [] ws) (k:=i) (Di.aE _) rfl rfl rfl an qh rfl (fun _=>rfl) (by decide) hk0) ?_
  refine Kc (Kl (.p (.str (sB (Di.gt [] ws i))))) ?_
  iterate 6 refine af ?_
  refine Kc (Kp (Bo (Di.gt [] ws i) (hw _ hm) (decide_eq_true (hC _ hm)))) ?_
  refine aj.yield 14 rfl rfl rfl rfl rfl rfl (hb _ _ _ hinv (GB hk0)) ?_
  intro b2 h2 Bb
  iterate 2 refine af ?_
  refine Ki (fun cK=> ?_) fun cK=> ?_
  ·have iW:b2=false:=by simpa using cK
   subst iW
   refine af ?_
   exact⟨.inr rfl,_,eX.none_ rfl,.inr (by rwa [if_neg (by decide)] at Bb)⟩
  ·have iW:b2=true:=by simpa using cK
   subst iW
   iterate 2 refine af ?_
   refine Kc (aa.add (m:=((i+1:Nat):Int)) rfl rfl rfl ((aI ?_).trans ?_)) ?_
   ·omega
   ·omega
   iterate 2 refine af ?_
   refine⟨(i+1,h2),?_,?_,?_⟩
   ·exact⟨hk0,by rwa [if_pos rfl] at Bb⟩
   ·show ws.length - (i+1)<ws.length - i
    omega
   exact To.sub KS
 ·have hi2:i=ws.length:=by have h:=Zk hc0;omega
  subst hi2
  refine aF.exit ?_
  exact⟨.inl rfl,_,eX.none_ rfl,.inl (by unfold uO;rw[Zr];exact hinv)⟩
theorem JS(ws:List Bs)(hl:ws.length<=1000000)(hw:∀ w∈ws,w.length<=1000000)(hC:¬ ∀ w∈ws,gV w):S2 Tryz.prog 109 (fun y=>[y,.p (.ip [cz ws] 0)]) (uO ws) (.iface 94 (.agg [.int .i64 8])):=by
 intro l κ nn inv hκ Uc hb h0 uV
 refine zU.ir (N:=17) Tryz.func109 rfl rfl Kn ?_
 iterate 2 refine af ?_
 refine Kc (Kl (.p (cz ws))) ?_
 iterate 4 refine af ?_
 refine aF.tM [4,7,8,9,10,11,12,13,14,15,16] (fun g=>[(7,.p (.int .i64 ((g.1:Nat):Int)))]) (fun g=>g.2) (fun g=>g.1<=ws.length∧inv g.1 g.2∧∀ j,j<g.1->gV (Di.gt [] ws j)) (fun g=>ws.length - g.1) (0,h0) ⟨Zp _,uV,fun j hj=>absurd hj (by omega)⟩ (To.sub (Sub.SK (Sub.cons rfl Sub.nil))) (fun g hg=> ?_)
 obtain⟨i,Lh⟩:=g
 obtain⟨hle,hinv,hall⟩:=hg
 dsimp only at hle hinv hall ⊢
 iterate 5 refine af ?_
 refine Ki (fun hc0=> ?_) fun hc0=> ?_
 ·have hk0:i<ws.length:=by have h:=Zg hc0;omega
  have hm:=Di.bN [] hk0
  iterate 5 refine af ?_
  refine Kc (aa.aP (g:=Di.gt [] ws) (k:=i) (Di.aE _) rfl rfl rfl an qh rfl (fun _=>rfl) (by decide) hk0) ?_
  refine Kc (Kl (.p (.str (sB (Di.gt [] ws i))))) ?_
  iterate 6 refine af ?_
  refine aj.ct 13 (b:=(decide (gV (Di.gt [] ws i)))) (Bo (Di.gt [] ws i) (hw _ hm)) (Nc (Di.gt [] ws i) (hw _ hm)) rfl rfl rfl rfl rfl rfl rfl an (fun hf=> ?_) (fun hf=> ?_)
  ·exact⟨rfl,_,hinv⟩
  refine aj.yield 14 rfl rfl rfl rfl rfl rfl (hb _ _ _ hinv (GB hk0)) ?_
  intro b2 h2 Bb
  iterate 2 refine af ?_
  refine Ki (fun cK=> ?_) fun cK=> ?_
  ·rw[Bb.1] at cK
   cases cK
  ·iterate 2 refine af ?_
   refine Kc (aa.add (m:=((i+1:Nat):Int)) rfl rfl rfl ((aI ?_).trans ?_)) ?_
   ·omega
   ·omega
   iterate 2 refine af ?_
   refine⟨(i+1,h2),?_,?_,?_⟩
   ·exact⟨hk0,Bb.2,fun j hj=>by rcases O2.1 hj with h | rfl;exact hall j h;exact Zg hf⟩
   ·show ws.length - (i+1)<ws.length - i
    omega
   exact To.sub KS
 ·have hi2:i=ws.length:=by have h:=Zk hc0;omega
  subst hi2
  exact(hC fun w hw=>by obtain⟨j,hj,rfl⟩:=Pu hw;rw[Di.aE [] j hj];exact hall j hj).elim
theorem B9(ws:List Bs)(hl:ws.length<=1000000)(hw:∀ w∈ws,w.length<=1000000)(hC:∀ w∈ws,gV w):Pure Tryz.prog 108 [.nilSlice,(.func (.func 109) [] [.ip [cz ws] 0])] (Di.bh (ws.map fJ)):=by
 refine Kf (N:=13) Tryz.func108 ?_
 iterate 2 refine af ?_
 refine Kc (aa.jf rfl rfl rfl) ?_
 iterate 8 refine af ?_
 refine aF.to To.pad ?_
 refine aF.rangeFunc 0 rfl (fun _=>rfl) an (Lv ws hl hw hC) (Zf _) (Zp _) (fun _ h=>by cases h) (fun x hx=>by unfold uO at hx;obtain⟨j,_,rfl⟩:=zl.1 hx;rfl) rfl (fun k h=>h=[.cells [hO 1 k] 35,dA ((((ws.take k).map fJ).flatMap Di.bZ).map .p) 3 k]) (fun c h=>False) (fun _ _ h=>by rw[h];rfl) (fun _ _ h=>h.elim) rfl ?_ ?_ ?_
 ·exact Ch
 ·intro h hJ
  subst hJ
  rw[show(uO ws).length=ws.length by unfold uO;rw[Zr],ZV]
  refine af ?_
  refine aF.to (To.Z1 1 0 (xs:=(ws.map fJ).flatMap Di.bZ) (n:=ws.length) (a:=[]) (b:=[]) [(2,.ptr 0 0)] (by decide) rfl rfl (fun h=>by rw[KJ.1 h];rfl) rfl rfl KS KS) ?_
  iterate 5 refine af ?_
  refine Fin.gL rfl rfl ?_
  unfold Di.bh
  rw[Zr]
 ·exact gY
theorem Cd(ws:List Bs)(hl:ws.length<=1000000)(hw:∀ w∈ws,w.length<=1000000)(hC:¬ ∀ w∈ws,gV w):tI Tryz.prog 108 [.nilSlice,(.func (.func 109) [] [.ip [cz ws] 0])] (.iface 94 (.agg [.int .i64 8])):=by
 refine ay.start (N:=13) Tryz.func108 rfl rfl Kn ?_
 iterate 2 refine af ?_
 refine Kc (aa.jf rfl rfl rfl) ?_
 iterate 8 refine af ?_
 refine aF.to To.pad ?_
 refine aF.Fh 0 rfl (fun _=>rfl) an (JS ws hl hw hC) (Zf _) (Zp _) (fun x hx=>by unfold uO at hx;obtain⟨j,_,rfl⟩:=zl.1 hx;rfl) rfl (fun k h=>h=[.cells [hO 1 k] 35,dA ((((ws.take k).map fJ).flatMap Di.bZ).map .p) 3 k]) (fun _ _ h=>by rw[h];rfl) rfl ?_ ?_
 ·exact Ch
 ·intro h
  exact⟨_,rfl,rfl⟩
theorem I4(ws:List Bs)(hl:ws.length<=1000000)(hw:∀ w∈ws,w.length<=1000000)(hC:∀ w∈ws,gV w):Pure Tryz.prog 41 [(.func (.func 109) [] [.ip [cz ws] 0])] (Di.bh (ws.map fJ)):=by
 refine Kf (N:=5) Tryz.func41 ?_
 iterate 7 refine af ?_
 refine Kc (Kp (B9 ws hl hw hC)) ?_
 exact dO
theorem Jw(ws:List Bs)(hl:ws.length<=1000000)(hw:∀ w∈ws,w.length<=1000000)(hC:¬ ∀ w∈ws,gV w):tI Tryz.prog 41 [(.func (.func 109) [] [.ip [cz ws] 0])] (.iface 94 (.agg [.int .i64 8])):=by
 refine ay.start (N:=5) Tryz.func41 rfl rfl Kn ?_
 iterate 7 refine af ?_
 refine aj.vC 4 (Cd ws hl hw hC) rfl rfl rfl rfl rfl rfl rfl an ⟨_,rfl,rfl⟩
def IA(b:bI):List PV:=cH b++[Di.bh b.b9]
def di(i1 i2 i3 i4 i5:Nat)(b:bI):List V:=[aW i1 b.aq.length,aW i2 b.ag.length,aW i3 b.au.length,aW i4 b.plan.length,.p (.int .i64 (b.bad:Int)),.p (.int .i64 (b.good:Int)),aW i5 b.b9.length]
def c7(l:List Ck.Sk):ai:=dA ((l.flatMap Ck.Sk.cells).map .p) 60 l.length
def cY(l:List Rx.bY):ai:=dA ((l.flatMap Rx.bY.cells).map .p) 92 l.length
def c8(l:List Di.cO):ai:=dA ((l.flatMap Di.cO.cells).map .p) 74 l.length
def bu(l:List Int):ai:=dA ((l.flatMap Di.bZ).map .p) 3 l.length
theorem ye(l:List Int)(hl:l.length<=1000000):az Tryz.prog 72 [.p (Di.bh l)] [] fun v H2=>v=aW 0 l.length∧H2=[dA ((l.flatMap Di.bZ).map .p) 3 l.length]:=by
 refine az.start (N:=8) Tryz.func72 rfl rfl Kn ?_
 iterate 8 refine af ?_
 refine aj.Ar 4 rfl rfl rfl an rfl rfl rfl (fun b hb0=> ?_)
 refine af ?_
 refine Ki (fun hc0=> ?_) fun hc0=> ?_
 ·have h0:l.length=0:=hb0 hc0
  iterate 3 refine af ?_
  refine aj.to (To.z0 2 rfl) ?_
  refine aj.to To.pad ?_
  iterate 2 refine af ?_
  have hq:V.z0=aW 0 l.length∧([.dead]:List ai)=[dA ((l.flatMap Di.bZ).map .p) 3 l.length]:=⟨(oH h0).symm,by rw[oE h0]⟩
  exact qz
 ·iterate 3 refine af ?_
  refine Kc (aa.ug rfl an) ?_
  refine af ?_
  refine Kc (aa.qM rfl rfl rfl an an (rm (xs:=(l.flatMap Di.bZ)) (n:=l.length) (sz:=1) (AF.cy (c:=1) (fun _=>rfl) l)) (MG Di.bZ l (fun _=>rfl)) an (by decide) ?_) ?_
  ·show(2*l.length+192)*8<=281474976710656;omega
  exact nM
theorem Je(l:List Ck.Sk)(hl:l.length<=1000000):az Tryz.prog 81 [.p (Ck.cM l)] [] fun v H2=>v=aW 0 l.length∧H2=[dA ((l.flatMap Ck.Sk.cells).map .p) 60 l.length]:=by
 refine az.start (N:=8) Tryz.func81 rfl rfl Kn ?_
 iterate 8 refine af ?_
 refine aj.Ar 4 rfl rfl rfl an rfl rfl rfl (fun b hb0=> ?_)
 refine af ?_
 refine Ki (fun hc0=> ?_) fun hc0=> ?_
 ·have h0:l.length=0:=hb0 hc0
  iterate 3 refine af ?_
  refine aj.to (To.z0 2 rfl) ?_
  refine aj.to To.pad ?_
  iterate 2 refine af ?_
  have hq:V.z0=aW 0 l.length∧([.dead]:List ai)=[dA ((l.flatMap Ck.Sk.cells).map .p) 60 l.length]:=⟨(oH h0).symm,by rw[oE h0]⟩
  exact qz
 ·iterate 3 refine af ?_
  refine Kc (aa.ug rfl an) ?_
  refine af ?_
  refine Kc (aa.qM rfl rfl rfl an an (rm (xs:=(l.flatMap Ck.Sk.cells)) (n:=l.length) (sz:=6) (AF.cy (c:=6) (fun _=>rfl) l)) (MG Ck.Sk.cells l (fun _=>rfl)) an (by decide) ?_) ?_
  ·show(2*l.length+192)*48<=281474976710656;omega
  exact nM
theorem JT(l:List Di.cO)(hl:l.length<=1000000):az Tryz.prog 82 [.p (Di.eY l)] [] fun v H2=>v=aW 0 l.length∧H2=[dA ((l.flatMap Di.cO.cells).map .p) 74 l.length]:=by
 refine az.start (N:=8) Tryz.func82 rfl rfl Kn ?_
 iterate 8 refine af ?_
 refine aj.Ar 4 rfl rfl rfl an rfl rfl rfl (fun b hb0=> ?_)
 refine af ?_
 refine Ki (fun hc0=> ?_) fun hc0=> ?_
 ·have h0:l.length=0:=hb0 hc0
  iterate 3 refine af ?_
  refine aj.to (To.z0 2 rfl) ?_
  refine aj.to To.pad ?_
  iterate 2 refine af ?_
  have hq:V.z0=aW 0 l.length∧([.dead]:List ai)=[dA ((l.flatMap Di.cO.cells).map .p) 74 l.length]:=⟨(oH h0).symm,by rw[oE h0]⟩
  exact qz
 ·iterate 3 refine af ?_
  refine Kc (aa.ug rfl an) ?_
  refine af ?_
  refine Kc (aa.qM rfl rfl rfl an an (rm (xs:=(l.flatMap Di.cO.cells)) (n:=l.length) (sz:=3) (AF.cy (c:=3) (fun _=>rfl) l)) (MG Di.cO.cells l (fun _=>rfl)) an (by decide) ?_) ?_
  ·show(2*l.length+192)*24<=281474976710656;omega
  exact nM
theorem yd{i n:Nat}{l:List V}:jF (aW i n::l)=none:=by cases n <;> rfl
theorem x9(i1 i2 i3 i4 i5:Nat)(b:bI):fZ (di i1 i2 i3 i4 i5 b)= .agg (di i1 i2 i3 i4 i5 b):=by
 unfold fZ di
 rw[yd]
theorem pZ(i1 i2 i3 i4 i5:Nat)(b:bI):(di i1 i2 i3 i4 i5 b).all jj=true:=by simp only[di,Vp,List.all_nil,DU,Bool.true_and,Bool.and_true];rfl
theorem az.kill{f:FuncId}{args:List V}{H:List ai}{v0:V}{H0:List ai}(i:Nat)(h:az Tryz.prog f args H fun v H2=>v=v0∧H2=H0):az Tryz.prog f args H fun v H2=>v=v0∧H2=H0.set i .dead:=
 fun w I ρ us hi gz=>(h w I ρ us hi gz).mono fun e w' ⟨u,v,J,σ,H2,h1,⟨h2,h3⟩,h4,h5,h6⟩=>⟨u,v,J,σ,H0.set i .dead,h1,⟨h2,rfl⟩,h4,by rw[<- h3];exact h5.kill i,h6⟩
theorem FF(b:bI)(h1:b.aq.length<=1000)(h2:b.ag.length<=1000)(h3:b.au.length<=1000)(h4:b.plan.length<=1000)(h5:b.b9.length<=1000):az Tryz.prog 35 [.p (.agg (IA b))] [] fun v H2=>v= .agg (di 3 2 4 5 6 b)∧H2=[.cells (di 3 2 4 5 6 b) 83,.cells (di 3 2 4 5 6 b) 83,cY b.ag,c7 b.aq,c8 b.au,bu b.plan,bu b.b9]:=by
 refine az.start (N:=42) Tryz.func35 rfl rfl Kn ?_
 iterate 7 refine af ?_
 refine Kc (Kl (.p (.agg (IA b)))) ?_
 iterate 7 refine af ?_
 refine Kc (Kl (.p (Rx.fF b.ag))) ?_
 refine af ?_
 refine Kc (aa.Y9 rfl rfl rfl an an (by decide) ?_) ?_
 ·show 16*b.ag.length<=281474976710656;omega
 iterate 2 refine af ?_
 refine Kz (aa.vS (H':=[.cells [.p .nilSlice,.p .nilSlice,.p .nilSlice,.p .nilSlice,.p (.int .i64 0),.p (.int .i64 0),.p .nilSlice] 83,.cells [.p (Ck.cM b.aq),aW 2 b.ag.length,.p (Di.eY b.au),.p (Di.bh b.plan),.p (.int .i64 (b.bad:Int)),.p (.int .i64 (b.good:Int)),.p (Di.bh b.b9)] 83,dA ((List.replicate b.ag.length [.int .i64 0,.int .i64 0]).flatten.map .p) 92 b.ag.length]) rfl rfl rfl an rfl) ?_
 iterate 5 refine af ?_
 refine Kc (Kl (aW 2 b.ag.length)) ?_
 iterate 2 refine af ?_
 refine Kc (Kl (.p (Rx.fF b.ag))) ?_
 refine Kc (aa.Y1 (zs:=(List.replicate b.ag.length [.int .i64 0,.int .i64 0]).flatten) (xs:=(b.ag.flatMap Rx.bY.cells)) rfl rfl rfl an rfl (AF.cy (c:=2) (fun _=>rfl) b.ag) (by rw[AF.cy (c:=2) (fun _=>rfl)];simp) (MG Rx.bY.cells b.ag (fun _=>rfl)) (rm (xs:=(b.ag.flatMap Rx.bY.cells)) (n:=b.ag.length) (sz:=2) (AF.cy (c:=2) (fun _=>rfl) b.ag))) ?_
 iterate 2 refine af ?_
 refine aF.bU 10 2 [3,4] [([],false),([],false),([],false),([3],true),([],false),([],false),([],false),([4],true),([],false),([],false)] mixed (by kernel_rfl) (by decide) (by kernel_rfl) rfl (by simp[bR,bK,b8,dV,iq,fA,bC,cT,c7,cY,c8,bu,di]) ?_
 iterate 2 refine af ?_
 refine bA.cons 21 rfl rfl rfl (fun _=>(Kl (.p (Ck.cM b.aq)))) rfl ?_
 refine bA.lay (blk:=(c7 b.aq)) (v:=aW 3 b.aq.length) (v0:=aW 5 b.aq.length) 22 3 rfl rfl rfl rfl rfl rfl rfl rfl (fun _=>(aa.G4 (args:=[Ck.cM b.aq]) 1 5 (Je b.aq (by omega)) rfl (eT (f:=Ck.Sk.cells) (fun _=>rfl) _) rfl rfl rfl rfl rfl an)) (cC rfl) (cC rfl) bC ?_
 iterate 2 refine af ?_
 refine bA.cons 25 rfl rfl rfl (fun _=>(Kl (.p (Di.eY b.au)))) rfl ?_
 refine bA.lay (blk:=(c8 b.au)) (v:=aW 4 b.au.length) (v0:=aW 5 b.au.length) 26 4 rfl rfl rfl rfl rfl rfl rfl rfl (fun _=>(aa.G4 (args:=[Di.eY b.au]) 1 5 (JT b.au (by omega)) rfl (eT (f:=Di.cO.cells) (fun _=>rfl) _) rfl rfl rfl rfl rfl an)) (cC rfl) (cC rfl) bC ?_
 iterate 2 refine af ?_
 refine bA.nil ?_
 refine Kz (aa.vS (H':=[.cells [.p .nilSlice,.p .nilSlice,.p .nilSlice,.p .nilSlice,.p (.int .i64 0),.p (.int .i64 0),.p .nilSlice] 83,.cells [aW 3 b.aq.length,aW 2 b.ag.length,.p (Di.eY b.au),.p (Di.bh b.plan),.p (.int .i64 (b.bad:Int)),.p (.int .i64 (b.good:Int)),.p (Di.bh b.b9)] 83,cY b.ag,c7 b.aq,c8 b.au]) rfl rfl rfl an rfl) ?_
 iterate 2 refine af ?_
 refine Kz (aa.vS (H':=[.cells [.p .nilSlice,.p .nilSlice,.p .nilSlice,.p .nilSlice,.p (.int .i64 0),.p (.int .i64 0),.p .nilSlice] 83,.cells [aW 3 b.aq.length,aW 2 b.ag.length,aW 4 b.au.length,.p (Di.bh b.plan),.p (.int .i64 (b.bad:Int)),.p (.int .i64 (b.good:Int)),.p (Di.bh b.b9)] 83,cY b.ag,c7 b.aq,c8 b.au]) rfl rfl rfl an rfl) ?_
 iterate 2 refine af ?_
 refine aF.bU 9 2 [5,6] [([],false),([],false),([],false),([5],true),([],false),([],false),([6],true),([],false),([],false)] mixed (by kernel_rfl) (by decide) (by kernel_rfl) rfl (by simp[bR,bK,b8,dV,iq,fA,bC,cT,c7,cY,c8,bu,di]) ?_
 iterate 2 refine af ?_
 refine bA.cons 33 rfl rfl rfl (fun _=>(Kl (.p (Di.bh b.plan)))) rfl ?_
 refine bA.lay (blk:=(bu b.plan)) (v:=aW 5 b.plan.length) (v0:=aW 7 b.plan.length) 34 5 rfl rfl rfl rfl rfl rfl rfl rfl (fun _=>(aa.G4 (args:=[Di.bh b.plan]) 1 7 (ye b.plan (by omega)) rfl (eT (f:=Di.bZ) (fun _=>rfl) _) rfl rfl rfl rfl rfl an)) (cC rfl) (cC rfl) bC ?_
 refine af ?_
 refine bA.cons 36 rfl rfl rfl (fun _=>(Kl (.p (Di.bh b.b9)))) rfl ?_
 refine bA.lay (blk:=(bu b.b9)) (v:=aW 6 b.b9.length) (v0:=aW 7 b.b9.length) 37 6 rfl rfl rfl rfl rfl rfl rfl rfl (fun _=>(aa.G4 (args:=[Di.bh b.b9]) 1 7 (ye b.b9 (by omega)) rfl (eT (f:=Di.bZ) (fun _=>rfl) _) rfl rfl rfl rfl rfl an)) (cC rfl) (cC rfl) bC ?_
 iterate 2 refine af ?_
 refine bA.nil ?_
 refine Kz (aa.vS (H':=[.cells [.p .nilSlice,.p .nilSlice,.p .nilSlice,.p .nilSlice,.p (.int .i64 0),.p (.int .i64 0),.p .nilSlice] 83,.cells [aW 3 b.aq.length,aW 2 b.ag.length,aW 4 b.au.length,aW 5 b.plan.length,.p (.int .i64 (b.bad:Int)),.p (.int .i64 (b.good:Int)),.p (Di.bh b.b9)] 83,cY b.ag,c7 b.aq,c8 b.au,bu b.plan,bu b.b9]) rfl rfl rfl an rfl) ?_
 refine af ?_
 refine Kz (aa.vS (H':=[.cells [.p .nilSlice,.p .nilSlice,.p .nilSlice,.p .nilSlice,.p (.int .i64 0),.p (.int .i64 0),.p .nilSlice] 83,.cells (di 3 2 4 5 6 b) 83,cY b.ag,c7 b.aq,c8 b.au,bu b.plan,bu b.b9]) rfl rfl rfl an rfl) ?_
 iterate 3 refine af ?_
 refine Kc (aa.load (v:= .agg (di 3 2 4 5 6 b)) rfl rfl an (show cV _ _ _ _=_ from congrArg some (x9 3 2 4 5 6 b))) ?_
 refine Kz (aa.store (H':=[.cells (di 3 2 4 5 6 b) 83,.cells (di 3 2 4 5 6 b) 83,cY b.ag,c7 b.aq,c8 b.au,bu b.plan,bu b.b9]) rfl rfl rfl rfl (pZ 3 2 4 5 6 b) an rfl rfl) ?_
 iterate 2 refine af ?_
 exact jV.one rfl ⟨_,_,_,rfl,an,(show cV _ _ _ _=_ from congrArg some (x9 3 2 4 5 6 b))⟩ ⟨rfl,rfl⟩
theorem IW(b:bI)(h1:b.aq.length<=1000)(h2:b.ag.length<=1000)(h3:b.au.length<=1000)(h4:b.plan.length<=1000)(h5:b.b9.length<=1000):az Tryz.prog 35 ([.agg (IA b)].map .p) [] fun v H2=>v= .agg (di 3 2 4 5 6 b)∧H2=[.dead,.dead,cY b.ag,c7 b.aq,c8 b.au,bu b.plan,bu b.b9]:=
 az.kill 1 (az.kill 0 (FF b h1 h2 h3 h4 h5))
def cB(b:bI)(p:Di.bJ)(um:V)(i1 i2 i3 i4 i5:Nat):ai:= .cells (di i1 i2 i3 i4 i5 b++p.cells.map .p++[um,.p (.bool true)]) 87
def mO(b:bI)(p:Di.bJ)(um:V):List ai:=[cB b p um 1 2 3 4 5,c7 b.aq,cY b.ag,c8 b.au,bu b.plan,bu b.b9]
theorem MJ(l:List Rx.bY)(x:Rx.bY):ai.row ((l.flatMap Rx.bY.cells).map .p++x.cells.map .p) 92=cY (l++[x]):=by
 unfold cY
 exact qD
theorem Lt(l:List Ck.Sk)(x:Ck.Sk):ai.row ((l.flatMap Ck.Sk.cells).map .p++x.cells.map .p) 60=c7 (l++[x]):=by
 unfold c7
 exact qD
theorem NR(l:List Di.cO)(x:Di.cO):ai.row ((l.flatMap Di.cO.cells).map .p++x.cells.map .p) 74=c8 (l++[x]):=by
 unfold c8
 exact qD
theorem Ea(l:List Int)(x:Int):ai.row ((l.flatMap Di.bZ).map .p++(Di.bZ x).map .p) 3=bu (l++[x]):=by
 unfold bu
 exact qD
theorem kE{α:Type}(i:Nat)(l:List α)(x:α):V.row i (l.length+1)=aW i (l++[x]).length:=by
 rw[Zc];rfl
def At6(b:bI)(p:Di.bJ)(um:V)(H:List ai):Prop:=∃ i1 i2 i3 i4 i5:Nat,[0,i1,i2,i3,i4,i5].Nodup∧H[0]? =some (cB b p um i1 i2 i3 i4 i5)∧H[i1]? =some (c7 b.aq)∧H[i2]? =some (cY b.ag)∧H[i3]? =some (c8 b.au)∧H[i4]? =some (bu b.plan)∧H[i5]? =some (bu b.b9)
def Eh(b:bI)(p:Di.bJ)(um:V)(H:List ai):Prop:=6<=H.length∧∀(j:Nat) (y:ai),0<j->j<6->H[j]? =some y->y= .dead∨(mO b p um)[j]? =some y
def V1(b:bI)(p:Di.bJ)(um:V)(H:List ai):Prop:=(∃ cs:List V,cs.length=7∧H[0]? =some (.cells (cs++p.cells.map .p++[um,.p (.bool true)]) 87))∧Eh b p um H
theorem VE(b:bI)(p:Di.bJ)(um:V):At6 b p um (mO b p um):=⟨1,2,3,4,5,by decide,rfl,rfl,rfl,rfl,rfl,rfl⟩
theorem Dw(b:bI)(p:Di.bJ)(um:V):Eh b p um (mO b p um):=⟨Zf _,fun j y _ _ h=> .inr h⟩
theorem fL(b:bI)(p:Di.bJ)(um:V):V1 b p um (mO b p um):=⟨⟨_,rfl,rfl⟩,Dw b p um⟩
theorem Uj(b:bI)(p:Di.bJ)(a:Option Addr)(m c:Nat):Wt Tryz.prog (mO b p (.raw a m c)):=vk (by
 intro blk h
 simp only[mO,Zw,R5,or_false] at h
 rcases h with rfl | rfl | rfl | rfl | rfl | rfl
 ·simp[cB,mO,di,bR,bK,b8,dV,iq,Me,Di.bJ.cells]
 ·exact bC
 ·exact bC
 ·exact bC
 ·exact bC
 ·exact bC)
theorem MU{H:List ai}{b:bI}{p:Di.bJ}{um:V}{i1 i2 i3 i4 i5 k:Nat}{v:V}(h0:H[0]? =some (cB b p um i1 i2 i3 i4 i5))(hv:(di i1 i2 i3 i4 i5 b++p.cells.map .p++[um,.p (.bool true)])[k]? =some v):cV H false 1 (.ptr 0 k)=some v:=by
 simp only[cV,h0]
 exact hv
theorem Yl{H:List ai}{b:bI}{p:Di.bJ}{um v:V}{i1 i2 i3 i4 i5 k:Nat}{cs:List V}(h0:H[0]? =some (cB b p um i1 i2 i3 i4 i5))(hk:k+1<=13)(hc:setAt (di i1 i2 i3 i4 i5 b++p.cells.map .p++[um,.p (.bool true)]) k [v]=cs):fI H 0 k [v]=some (H.set 0 (.cells cs 87)):=by
 subst hc
 simp only[fI,h0]
 exact if_pos hk
theorem Nv(b:bI)(p:Di.bJ)(um:V)(i1 i2 i3 i4 i5:Nat)(H:List ai)(h0:H[0]? =some (cB b p um i1 i2 i3 i4 i5)):ay Tryz.prog 139 [.ptr 0 0] H (fun v H2=>b.ag.length<24∧v= .p (.tuple [])∧H2=H) (fun y H2=>¬ b.ag.length<24∧y=(.iface 94 (.agg [.int .i64 9]))∧H2=H):=by
 refine ay.start (N:=11) Tryz.func139 rfl rfl Kn ?_
 iterate 6 refine af ?_
 refine Kc (aa.load (v:=aW i2 b.ag.length) rfl rfl an (MU h0 rfl)) ?_
 refine Kc (aa.bD rfl rfl an qC) ?_
 refine af ?_
 refine aj.ct 10 (b:=_) (dn _ 9) (dj _ 9) rfl rfl rfl rfl rfl rfl rfl an (fun hb=> ?_) (fun hb=> ?_)
 ·exact⟨_,rfl,fun h=>Zk hb (by omega),rfl,rfl⟩
 refine af ?_
 have iW:=Zg hb
 exact⟨.inl rfl,_,eX.none_ rfl,by omega,rfl,rfl⟩
theorem X5(b:bI)(p:Di.bJ)(um:V)(i1 i2 i3 i4 i5:Nat)(H:List ai)(h0:H[0]? =some (cB b p um i1 i2 i3 i4 i5))(n:Int):az Tryz.prog 143 [.ptr 0 0,.p (.int .i64 n)] H (fun v H2=>v= .p (.bool (decide (n<(b.ag.length:Int))))∧H2=H):=by
 refine az.start (N:=14) Tryz.func143 rfl rfl Kn ?_
 iterate 12 refine af ?_
 refine Kc (aa.load (v:=aW i2 b.ag.length) rfl rfl an (MU h0 rfl)) ?_
 refine Kc (aa.bD rfl rfl an qC) ?_
 iterate 4 refine af ?_
 exact jV.one rfl rfl ⟨rfl,rfl⟩
theorem KD(b:bI)(p:Di.bJ)(um:V)(i1 i2 i3 i4 i5:Nat)(H:List ai)(h0:H[0]? =some (cB b p um i1 i2 i3 i4 i5))(h2:H[i2]? =some (cY b.ag))(hi:i2≠0)(x y:Int):ay Tryz.prog 87 [.ptr 0 0,.p (.int .i64 x),.p (.int .i64 y)] H (fun v H2=>b.ag.length<24∧v= .p (.int .i64 (b.ag.length:Int))∧H2=(H.set i2 .dead++[cY (b.gq ⟨x,y⟩).ag]).set 0 (cB (b.gq ⟨x,y⟩) p um i1 H.length i3 i4 i5)) (fun q H2=>¬ b.ag.length<24∧q=(.iface 94 (.agg [.int .i64 9]))∧H2=H):=by
 refine ay.start (N:=33) Tryz.func87 rfl rfl Kn ?_
 have h0L:0<H.length:=(Za.1 h0).1
 have h0s:(H.set i2 .dead++[ai.row ((b.ag.flatMap Rx.bY.cells).map .p++(Rx.bY.mk x y).cells.map .p) 92])[0]? =some (cB b p um i1 i2 i3 i4 i5):=by rw[Zd (by rw[yX];exact h0L),Zt,if_neg hi];exact h0
 iterate 7 refine af ?_
 refine aj.dH 8 (Nv b p um i1 i2 i3 i4 i5 H h0) rfl rfl rfl rfl rfl rfl rfl an (fun y H2 iz=> ?_) (fun v H2 iz=> ?_)
 ·obtain⟨q1,q2,q3⟩:=iz
  exact⟨_,rfl,q1,q2,q3⟩
 obtain⟨hlt,rfl,hH⟩:=iz
 have hH:=hH.symm
 subst hH
 iterate 9 refine af ?_
 refine Kc (aa.load (v:=aW i2 b.ag.length) rfl rfl an (MU h0 rfl)) ?_
 iterate 3 refine af ?_
 refine Kc (aa.aR rfl an (by decide) rfl rfl rfl) ?_
 refine Kc (aa.qw (i:=i2) (len:=b.ag.length) (cs:=(b.ag.flatMap Rx.bY.cells).map .p) (ys:=(Rx.bY.mk x y).cells.map .p) (n:=1) rfl rfl rfl an an h2 ?_ rfl (by decide) rfl an (by decide) ?_) ?_
 ·rw[Zr,AF.cy (c:=2) (fun _=>rfl)];rfl
 ·show(2*(b.ag.length+1)+192)*16<=281474976710656;omega
 iterate 4 refine af ?_
 refine Kz (aa.store rfl rfl rfl rfl rfl an rfl (Yl h0s (by decide) rfl)) ?_
 iterate 8 refine af ?_
 refine Kc (aa.load (v:= .row H.length (b.ag.length+1)) rfl rfl an (by simp only[cV];rw[Zt,if_pos rfl,if_pos (by rw[Zc,yX];omega)];rfl)) ?_
 refine af ?_
 refine Kc (aa.fN (m:=(b.ag.length:Int)) rfl rfl rfl ((aI ?_).trans ?_)) ?_
 ·omega
 ·omega
 iterate 3 refine af ?_
 refine iR.one rfl rfl ⟨hlt,rfl,?_⟩
 rw[MJ]
 congr 1
 unfold cB di
 have eA:aW H.length (b.gq ⟨x,y⟩).ag.length= .row H.length (b.ag.length+1):=(kE H.length b.ag ⟨x,y⟩).symm
 rw[eA]
 rfl
theorem zz(b:bI)(p:Di.bJ)(a:Option Addr)(m c:Nat):ay Tryz.prog 139 [.ptr 0 0] (mO b p (.raw a m c)) (fun v H2=>b.ag.length<24∧v= .p (.tuple [])∧H2=mO b p (.raw a m c)) (fun y H2=>¬ b.ag.length<24∧y=(.iface 94 (.agg [.int .i64 9]))∧H2=mO b p (.raw a m c)):=Nv b p (.raw a m c) 1 2 3 4 5 (mO b p (.raw a m c)) rfl
theorem uC(b:bI)(p:Di.bJ)(a:Option Addr)(m c:Nat)(n:Int):az Tryz.prog 143 [.ptr 0 0,.p (.int .i64 n)] (mO b p (.raw a m c)) (fun v H2=>v= .p (.bool (decide (n<(b.ag.length:Int))))∧H2=mO b p (.raw a m c)):=X5 b p (.raw a m c) 1 2 3 4 5 (mO b p (.raw a m c)) rfl n
theorem At(b:bI)(p:Di.bJ)(a:Option Addr)(m c:Nat)(x y:Int):ay Tryz.prog 87 [.ptr 0 0,.p (.int .i64 x),.p (.int .i64 y)] (mO b p (.raw a m c)) (fun v H2=>b.ag.length<24∧v= .p (.int .i64 (b.ag.length:Int))∧H2=[cB (b.gq ⟨x,y⟩) p (.raw a m c) 1 6 3 4 5,c7 b.aq,.dead,c8 b.au,bu b.plan,bu b.b9,cY (b.gq ⟨x,y⟩).ag]) (fun q H2=>¬ b.ag.length<24∧q=(.iface 94 (.agg [.int .i64 9]))∧H2=mO b p (.raw a m c)):=KD b p (.raw a m c) 1 2 3 4 5 (mO b p (.raw a m c)) rfl rfl (by decide) x y
end Go.Proofs.YtibffijhebobmaaGreatDoor
end
