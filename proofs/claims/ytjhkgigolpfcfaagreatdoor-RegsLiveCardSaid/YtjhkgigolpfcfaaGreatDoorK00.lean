/- A part of the proof. No conditions. -/
import Derived.Shelf.Sort.Plain
import Derived.Shelf.Slices.In.SortNone
import Derived.Ground.Names2Prog
import Derived.Test.YtjhkgigolpfcfaaGreatDoorProg
import Derived.Test.YtjhkgigolpfcfaaGreatDoorA09
set_option linter.all false
open Option.some renaming injEq->adG
open Option renaming bind_eq_some_iff->aed,map_eq_some_iff->aho,pure_def->ajB
open Nat renaming beq->akb
open Array renaming getElem?_eq_none->akX,replicate->alH
noncomputable section
namespace Go.Proofs
section
open Go.Shelf
def Tryz.agW:Go.Shelf.Ren:=⟨λ|189=>98|125=>137|257=>136|128=>161|129=>162|294=>152|295=>153|296=>154|297=>155|298=>156|299=>157|216=>158|300=>159|301=>160|328=>183|329=>184|330=>185|331=>186|332=>187|215=>139|343=>212|n=>n,λ|28=>42|3=>3|46=>182|0=>0|51=>206|53=>209|4=>4|183=>214|182=>213|131=>219|5=>5|9=>9|218=>236|222=>240|228=>267|229=>268|n=>n,λ|n=>n⟩
theorem Tryz.Ri:Go.Proofs.Lays.n189 Tryz.prog Tryz.agW:={
 mixed:=by kernel_rfl
 f125:=Tryz.func137.trans (congrArg some (by kernel_rfl))
 f128:=Tryz.func161.trans (congrArg some (by kernel_rfl))
 f129:=Tryz.func162.trans (congrArg some (by kernel_rfl))
 f189:=Tryz.func98.trans (congrArg some (by kernel_rfl))
 f215:=Tryz.func139.trans (congrArg some (by kernel_rfl))
 f216:=Tryz.func158.trans (congrArg some (by kernel_rfl))
 f257:=Tryz.func136.trans (congrArg some (by kernel_rfl))
 f294:=Tryz.func152.trans (congrArg some (by kernel_rfl))
 f295:=Tryz.func153.trans (congrArg some (by kernel_rfl))
 f296:=Tryz.func154.trans (congrArg some (by kernel_rfl))
 f297:=Tryz.func155.trans (congrArg some (by kernel_rfl))
 f298:=Tryz.func156.trans (congrArg some (by kernel_rfl))
 f299:=Tryz.func157.trans (congrArg some (by kernel_rfl))
 f300:=Tryz.func159.trans (congrArg some (by kernel_rfl))
 f301:=Tryz.func160.trans (congrArg some (by kernel_rfl))
 f328:=Tryz.func183.trans (congrArg some (by kernel_rfl))
 f329:=Tryz.func184.trans (congrArg some (by kernel_rfl))
 f330:=Tryz.func185.trans (congrArg some (by kernel_rfl))
 f331:=Tryz.func186.trans (congrArg some (by kernel_rfl))
 f332:=Tryz.func187.trans (congrArg some (by kernel_rfl))
 f343:=Tryz.func212.trans (congrArg some (by kernel_rfl))
 t0:=Tryz.underlying0
 a0:=Tryz.isAgg0
 z0:=Tryz.sizeOf0
 v0:=Tryz.zeroValue0
 t3:=Tryz.underlying3
 a3:=Tryz.isAgg3
 z3:=Tryz.sizeOf3
 v3:=Tryz.zeroValue3
 t4:=Tryz.underlying4
 a4:=Tryz.isAgg4
 z4:=Tryz.sizeOf4
 v4:=Tryz.zeroValue4
 t5:=Tryz.underlying5
 a5:=Tryz.isAgg5
 z5:=Tryz.sizeOf5
 v5:=Tryz.zeroValue5
 t9:=Tryz.underlying9
 a9:=Tryz.isAgg9
 z9:=Tryz.sizeOf9
 v9:=Tryz.zeroValue9
 t28:=Tryz.underlying42
 a28:=Tryz.isAgg42
 z28:=Tryz.sizeOf42
 v28:=Tryz.zeroValue42
 t46:=Tryz.underlying182
 a46:=Tryz.isAgg182
 z46:=Tryz.sizeOf182
 v46:=Tryz.zeroValue182
 t51:=Tryz.underlying206
 a51:=Tryz.isAgg206
 z51:=Tryz.sizeOf206
 v51:=Tryz.zeroValue206
 t53:=Tryz.underlying209
 a53:=Tryz.isAgg209
 z53:=Tryz.sizeOf209
 v53:=Tryz.zeroValue209
 t131:=Tryz.underlying219
 a131:=Tryz.isAgg219
 z131:=Tryz.sizeOf219
 v131:=Tryz.zeroValue219
 t182:=Tryz.underlying213
 a182:=Tryz.isAgg213
 z182:=Tryz.sizeOf213
 v182:=Tryz.zeroValue213
 t183:=Tryz.underlying214
 a183:=Tryz.isAgg214
 z183:=Tryz.sizeOf214
 v183:=Tryz.zeroValue214
 t218:=Tryz.underlying236
 a218:=Tryz.isAgg236
 z218:=Tryz.sizeOf236
 v218:=Tryz.zeroValue236
 t222:=Tryz.underlying240
 a222:=Tryz.isAgg240
 z222:=Tryz.sizeOf240
 v222:=Tryz.zeroValue240
 t228:=Tryz.underlying267
 a228:=Tryz.isAgg267
 z228:=Tryz.sizeOf267
 v228:=Tryz.zeroValue267
 t229:=Tryz.underlying268
 a229:=Tryz.isAgg268
 z229:=Tryz.sizeOf268
 v229:=Tryz.zeroValue268}
end
end Go.Proofs
namespace Go.am.R1
section
open Go.Proofs
@[irreducible]def e(f:Nat):aG:=((Tryz.prog.funcs[f]?).bind (uA Tryz.prog)).getD .none
theorem agX:Tryz.prog.funcs.toList.all (λfn=>!(fn.name== "runtime.NumGoroutine"))=true:=by kernel_rfl
theorem agY{P:Program}{fn:Func}{a:aG}(h:uA P fn=some a):∃c d b,a=.code c d b:=by unfold uA at h;simp only[ae5,aed,ajB,adG]at h;obtain⟨_,_,_,_,_,_,rfl⟩:=h;exact⟨_,_,_,rfl⟩
theorem o(f:Nat):kM Tryz.prog f (e f):=by unfold e;cases c:Tryz.prog.funcs[f]? with|none=>trivial|some fn=>simp only[alr];cases d:uA Tryz.prog fn with|none=>trivial|some a=>obtain⟨g,h,b,rfl⟩:=agY d;refine⟨fn,c,d,?_⟩;have:=aln.1 agX fn (Array.mem_toList_iff.2 (Array.mem_of_getElem? c));simpa using this
theorem nn(n:Nat):kM Tryz.prog n .none:=trivial
theorem agZ:kM Tryz.prog 98 (.ix tb):=Vs ⟨⟨Tryz.f98,Tryz.func98,by kernel_rfl,by kernel_rfl⟩⟩ (λaH off cap a w h1 h2 h3=>Any.slices_Sort_int Tryz.Ri aH off cap a w h1 h2 h3) (λp cap w=>Any.slices_Sort_int_none Tryz.Ri p cap w)
def ag0:List (Nat×aG):=[(38,.code 6 [.tmp (sl 2)] (HO 81 69)),(81,.code 4 [.tmp (sl 2)] (Ea 123 82)),(69,.code 9 [.tmp (sl 2)] (D9 97 98)),(98,.ix tb),(97,.code 5 [.tmp (sl 2)] (B7 135)),(135,.code 13 [.tmp (sl 4)] (xY 42)),(123,.code 14 [] Eb)]
theorem cC{n:Nat}{a:aG}(h:e n=a):kM Tryz.prog n a:=Eq.mp (congrArg (kM Tryz.prog n) h) (o n)
theorem ag1:kr Tryz.prog (Ef ag0):=Ee (Nt ⟨cC (by kernel_rfl),cC (by kernel_rfl),cC (by kernel_rfl),agZ,cC (by kernel_rfl),cC (by kernel_rfl),cC (by kernel_rfl),trivial⟩)
theorem ag2:kM Tryz.prog 38 (.ix xP):=VK ag1 (b:=38) (s:=81) (l:=69) (t:=98) (u:=97) (G:=135) (i:=123) (e1:=82) (e2:=42) rfl rfl rfl rfl rfl rfl rfl
theorem ag3:kM Tryz.prog 148 (.ix xQ):=VL Tryz.func148 (by kernel_rfl) (by kernel_rfl) (by kernel_rfl) (by kernel_rfl)
theorem Rj:kr Tryz.prog (pX 178 179):=VN (cC (by kernel_rfl)) (cC (by kernel_rfl))
theorem ag4:kM Tryz.prog 1001 (.ez uQ):=M0
theorem ag5:kM Tryz.prog 1002 (.ez xN):=Vq
theorem ag6:kM Tryz.prog 1003 (.ez xM):=U8
theorem ag7:kM Tryz.prog 1004 (.ez (BY 178)):=Vf (by decide) Rj
theorem ag8:kM Tryz.prog 1005 (.ez (BZ 178)):=Vg (by decide) Rj
abbrev Lf(n:Nat):ap aG:=.node .aL (e n) .aL
abbrev Md(n:Nat)(a b:ap aG):ap aG:=.node a (e n) b
abbrev Nd(v:aG)(a b:ap aG):ap aG:=.node a v b
theorem oL(n:Nat):kM Tryz.prog n (e n)/\True/\True:=⟨o n,trivial,trivial⟩
set_option maxRecDepth 100000 in noncomputable def nq:ap aG:=(Nd .none (Nd .none (Nd .none (Md 7 (Nd .none (Md 31 (Md 63 (Md 127 (Lf 255) .aL) (Lf 191)) (Md 95 (Md 159 (Lf 287) .aL) (Lf 223))) (Nd .none (Md 79 (Md 143 (Lf 271) .aL) (Lf 207)) (Md 111 (Md 175 (Lf 303) .aL) (Lf 239)))) (Md 23 (Md 39 (Md 71 (Md 135 (Lf 263) .aL) (Lf 199)) (Md 103 (Md 167 (Lf 295) .aL) (Lf 231))) (Md 55 (Nd .none (Md 151 (Lf 279) .aL) (Lf 215)) (Md 119 (Lf 183) (Lf 247))))) (Md 11 (Nd .none (Md 35 (Md 67 (Md 131 (Lf 259) .aL) (Lf 195)) (Md 99 (Md 163 (Lf 291) .aL) (Lf 227))) (Md 51 (Md 83 (Md 147 (Lf 275) .aL) (Lf 211)) (Md 115 (Lf 179) (Lf 243)))) (Nd .none (Nd .none (Md 75 (Md 139 (Lf 267) .aL) (Lf 203)) (Md 107 (Md 171 (Lf 299) .aL) (Md 235 .aL (Nd .none .aL (Nd (.ez xM) .aL .aL))))) (Md 59 (Md 91 (Md 155 (Lf 283) .aL) (Lf 219)) (Nd .none (Lf 187) (Lf 251)))))) (Nd .none (Md 9 (Md 17 (Md 33 (Md 65 (Md 129 (Lf 257) .aL) (Lf 193)) (Md 97 (Md 161 (Lf 289) .aL) (Lf 225))) (Md 49 (Nd .none (Md 145 (Lf 273) .aL) (Lf 209)) (Md 113 (Lf 177) (Lf 241)))) (Nd .none (Md 41 (Md 73 (Md 137 (Lf 265) .aL) (Lf 201)) (Md 105 (Md 169 (Lf 297) .aL) (Md 233 .aL (Nd .none .aL (Nd (.ez uQ) .aL .aL))))) (Md 57 (Md 89 (Md 153 (Lf 281) .aL) (Lf 217)) (Md 121 (Lf 185) (Lf 249))))) (Md 13 (Md 21 (Md 37 (Md 69 (Md 133 (Lf 261) .aL) (Lf 197)) (Md 101 (Md 165 (Lf 293) .aL) (Lf 229))) (Md 53 (Md 85 (Lf 149) (Lf 213)) (Md 117 (Lf 181) (Lf 245)))) (Md 29 (Md 45 (Md 77 (Md 141 (Lf 269) .aL) (Lf 205)) (Md 109 (Md 173 (Lf 301) .aL) (Md 237 .aL (Nd .none .aL (Nd (.ez (BZ 178)) .aL .aL))))) (Md 61 (Md 93 (Md 157 (Lf 285) .aL) (Lf 221)) (Md 125 (Lf 189) (Lf 253))))))) (Nd .none (Nd .none (Nd .none (Nd .none (Md 32 (Md 64 (Md 128 (Lf 256) .aL) (Lf 192)) (Md 96 (Md 160 (Lf 288) .aL) (Lf 224))) (Md 48 (Md 80 (Md 144 (Lf 272) .aL) (Lf 208)) (Md 112 (Lf 176) (Lf 240)))) (Nd .none (Md 40 (Md 72 (Md 136 (Lf 264) .aL) (Lf 200)) (Md 104 (Md 168 (Lf 296) .aL) (Lf 232))) (Md 56 (Md 88 (Md 152 (Lf 280) .aL) (Lf 216)) (Md 120 (Lf 184) (Lf 248))))) (Md 12 (Nd .none (Md 36 (Md 68 (Md 132 (Lf 260) .aL) (Lf 196)) (Md 100 (Md 164 (Lf 292) .aL) (Lf 228))) (Md 52 (Md 84 (Nd (.ix xQ) (Lf 276) .aL) (Lf 212)) (Md 116 (Lf 180) (Lf 244)))) (Md 28 (Nd .none (Md 76 (Md 140 (Lf 268) .aL) (Lf 204)) (Md 108 (Md 172 (Lf 300) .aL) (Md 236 .aL (Nd .none .aL (Nd (.ez (BY 178)) .aL .aL))))) (Md 60 (Md 92 (Md 156 (Lf 284) .aL) (Lf 220)) (Md 124 (Lf 188) (Lf 252)))))) (Nd .none (Md 10 (Md 18 (Md 34 (Md 66 (Nd .none (Lf 258) .aL) (Lf 194)) (Md 98 (Md 162 (Lf 290) .aL) (Lf 226))) (Md 50 (Md 82 (Md 146 (Lf 274) .aL) (Lf 210)) (Md 114 (Lf 178) (Lf 242)))) (Md 26 (Md 42 (Md 74 (Md 138 (Lf 266) .aL) (Lf 202)) (Md 106 (Md 170 (Lf 298) .aL) (Md 234 .aL (Nd .none .aL (Nd (.ez xN) .aL .aL))))) (Nd .none (Nd .none (Md 154 (Lf 282) .aL) (Lf 218)) (Md 122 (Lf 186) (Lf 250))))) (Nd .none (Md 22 (Nd (.ix xP) (Md 70 (Md 134 (Lf 262) .aL) (Lf 198)) (Md 102 (Md 166 (Lf 294) .aL) (Lf 230))) (Nd .none (Nd .none (Md 150 (Lf 278) .aL) (Lf 214)) (Md 118 (Lf 182) (Lf 246)))) (Md 30 (Nd .none (Md 78 (Md 142 (Lf 270) .aL) (Lf 206)) (Md 110 (Md 174 (Lf 302) .aL) (Lf 238))) (Md 62 (Nd .none (Md 158 (Lf 286) .aL) (Lf 222)) (Md 126 (Lf 190) (Lf 254))))))))
attribute [local irreducible]kM in set_option maxRecDepth 100000 in theorem FA:kr Tryz.prog (nq.bw .none):=VM (t:=nq) ⟨nn _,⟨nn _,⟨nn _,⟨o 7,⟨nn _,⟨o 31,⟨o 63,⟨o 127,(oL 255),trivial⟩,(oL 191)⟩,⟨o 95,⟨o 159,(oL 287),trivial⟩,(oL 223)⟩⟩,⟨nn _,⟨o 79,⟨o 143,(oL 271),trivial⟩,(oL 207)⟩,⟨o 111,⟨o 175,(oL 303),trivial⟩,(oL 239)⟩⟩⟩,⟨o 23,⟨o 39,⟨o 71,⟨o 135,(oL 263),trivial⟩,(oL 199)⟩,⟨o 103,⟨o 167,(oL 295),trivial⟩,(oL 231)⟩⟩,⟨o 55,⟨nn _,⟨o 151,(oL 279),trivial⟩,(oL 215)⟩,⟨o 119,(oL 183),(oL 247)⟩⟩⟩⟩,⟨o 11,⟨nn _,⟨o 35,⟨o 67,⟨o 131,(oL 259),trivial⟩,(oL 195)⟩,⟨o 99,⟨o 163,(oL 291),trivial⟩,(oL 227)⟩⟩,⟨o 51,⟨o 83,⟨o 147,(oL 275),trivial⟩,(oL 211)⟩,⟨o 115,(oL 179),(oL 243)⟩⟩⟩,⟨nn _,⟨nn _,⟨o 75,⟨o 139,(oL 267),trivial⟩,(oL 203)⟩,⟨o 107,⟨o 171,(oL 299),trivial⟩,⟨o 235,trivial,⟨nn _,trivial,⟨ag6,trivial,trivial⟩⟩⟩⟩⟩,⟨o 59,⟨o 91,⟨o 155,(oL 283),trivial⟩,(oL 219)⟩,⟨nn _,(oL 187),(oL 251)⟩⟩⟩⟩⟩,⟨nn _,⟨o 9,⟨o 17,⟨o 33,⟨o 65,⟨o 129,(oL 257),trivial⟩,(oL 193)⟩,⟨o 97,⟨o 161,(oL 289),trivial⟩,(oL 225)⟩⟩,⟨o 49,⟨nn _,⟨o 145,(oL 273),trivial⟩,(oL 209)⟩,⟨o 113,(oL 177),(oL 241)⟩⟩⟩,⟨nn _,⟨o 41,⟨o 73,⟨o 137,(oL 265),trivial⟩,(oL 201)⟩,⟨o 105,⟨o 169,(oL 297),trivial⟩,⟨o 233,trivial,⟨nn _,trivial,⟨ag4,trivial,trivial⟩⟩⟩⟩⟩,⟨o 57,⟨o 89,⟨o 153,(oL 281),trivial⟩,(oL 217)⟩,⟨o 121,(oL 185),(oL 249)⟩⟩⟩⟩,⟨o 13,⟨o 21,⟨o 37,⟨o 69,⟨o 133,(oL 261),trivial⟩,(oL 197)⟩,⟨o 101,⟨o 165,(oL 293),trivial⟩,(oL 229)⟩⟩,⟨o 53,⟨o 85,(oL 149),(oL 213)⟩,⟨o 117,(oL 181),(oL 245)⟩⟩⟩,⟨o 29,⟨o 45,⟨o 77,⟨o 141,(oL 269),trivial⟩,(oL 205)⟩,⟨o 109,⟨o 173,(oL 301),trivial⟩,⟨o 237,trivial,⟨nn _,trivial,⟨ag8,trivial,trivial⟩⟩⟩⟩⟩,⟨o 61,⟨o 93,⟨o 157,(oL 285),trivial⟩,(oL 221)⟩,⟨o 125,(oL 189),(oL 253)⟩⟩⟩⟩⟩⟩,⟨nn _,⟨nn _,⟨nn _,⟨nn _,⟨o 32,⟨o 64,⟨o 128,(oL 256),trivial⟩,(oL 192)⟩,⟨o 96,⟨o 160,(oL 288),trivial⟩,(oL 224)⟩⟩,⟨o 48,⟨o 80,⟨o 144,(oL 272),trivial⟩,(oL 208)⟩,⟨o 112,(oL 176),(oL 240)⟩⟩⟩,⟨nn _,⟨o 40,⟨o 72,⟨o 136,(oL 264),trivial⟩,(oL 200)⟩,⟨o 104,⟨o 168,(oL 296),trivial⟩,(oL 232)⟩⟩,⟨o 56,⟨o 88,⟨o 152,(oL 280),trivial⟩,(oL 216)⟩,⟨o 120,(oL 184),(oL 248)⟩⟩⟩⟩,⟨o 12,⟨nn _,⟨o 36,⟨o 68,⟨o 132,(oL 260),trivial⟩,(oL 196)⟩,⟨o 100,⟨o 164,(oL 292),trivial⟩,(oL 228)⟩⟩,⟨o 52,⟨o 84,⟨ag3,(oL 276),trivial⟩,(oL 212)⟩,⟨o 116,(oL 180),(oL 244)⟩⟩⟩,⟨o 28,⟨nn _,⟨o 76,⟨o 140,(oL 268),trivial⟩,(oL 204)⟩,⟨o 108,⟨o 172,(oL 300),trivial⟩,⟨o 236,trivial,⟨nn _,trivial,⟨ag7,trivial,trivial⟩⟩⟩⟩⟩,⟨o 60,⟨o 92,⟨o 156,(oL 284),trivial⟩,(oL 220)⟩,⟨o 124,(oL 188),(oL 252)⟩⟩⟩⟩⟩,⟨nn _,⟨o 10,⟨o 18,⟨o 34,⟨o 66,⟨nn _,(oL 258),trivial⟩,(oL 194)⟩,⟨o 98,⟨o 162,(oL 290),trivial⟩,(oL 226)⟩⟩,⟨o 50,⟨o 82,⟨o 146,(oL 274),trivial⟩,(oL 210)⟩,⟨o 114,(oL 178),(oL 242)⟩⟩⟩,⟨o 26,⟨o 42,⟨o 74,⟨o 138,(oL 266),trivial⟩,(oL 202)⟩,⟨o 106,⟨o 170,(oL 298),trivial⟩,⟨o 234,trivial,⟨nn _,trivial,⟨ag5,trivial,trivial⟩⟩⟩⟩⟩,⟨nn _,⟨nn _,⟨o 154,(oL 282),trivial⟩,(oL 218)⟩,⟨o 122,(oL 186),(oL 250)⟩⟩⟩⟩,⟨nn _,⟨o 22,⟨ag2,⟨o 70,⟨o 134,(oL 262),trivial⟩,(oL 198)⟩,⟨o 102,⟨o 166,(oL 294),trivial⟩,(oL 230)⟩⟩,⟨nn _,⟨nn _,⟨o 150,(oL 278),trivial⟩,(oL 214)⟩,⟨o 118,(oL 182),(oL 246)⟩⟩⟩,⟨o 30,⟨nn _,⟨o 78,⟨o 142,(oL 270),trivial⟩,(oL 206)⟩,⟨o 110,⟨o 174,(oL 302),trivial⟩,(oL 238)⟩⟩,⟨o 62,⟨nn _,⟨o 158,(oL 286),trivial⟩,(oL 222)⟩,⟨o 126,(oL 190),(oL 254)⟩⟩⟩⟩⟩⟩⟩
end
end Go.am.R1
namespace Go.am
section
variable[Ov]
section
variable{P:Program}{nt:Nat}
def iD(P:Program)(nt:Nat)(c:bt)(fr:Fr)(H:ai)(K:cP->Fr->ai->Prop):Prop:=
 ∀{e:cU}{d:aP}{w:World}{cc:Code}{b:Frame}{a:Act},eX P nt cc=some c->iM d nt fr b.roundOf a->bz P e d H w->∀(k:List Item)(cs:List Frame),jh P e d nt w b k cs (lone (b.atR a (.code cc::k)) cs w) K
theorem iD.run{ac:Nat->aG}(a:kr P ac){n:Nat}{c:bt}{fr:Fr}{H:ai}{K:cP->Fr->ai->Prop}(he:exec False dK ac n c fr H K):iD P nt c fr H K:=λb d e k cs=>(BL a n).2.1 b he d e k cs
theorem iD.rZ{c:bt}{aa d:ap AV}{m:List ab}{r:Option ab}{H Hs:ai}{K:cP->Fr->ai->Prop}(j:Hs.next=H.next)(hs:∀i,Hs.get i=.none\/Hs.get i=H.get i)(l:∀t,t<nt->d.get .alR (ab.dF t)=.co\/d.get .alR (ab.dF t)=aa.get .alR (ab.dF t))(h:iD P nt c ⟨d,m,r⟩ Hs K):iD P nt c ⟨aa,m,r⟩ H K:=by
 intro p q w cc b a n f o k cs;refine h n ⟨⟨f.E.1,λt g=>?_⟩,f.D,f.R⟩ (o.sub j λi=>(hs i).symm) k cs;rcases l t g with e|e;·simp[e,VR,undef,ab.dF]
 rw[e];exact f.E.2 t g
theorem iD.seq{x y:bt}{fr:Fr}{H:ai}{K1 K:cP->Fr->ai->Prop}(h1:iD P nt x fr H K1)(h2:∀j d H',K1 j d H'->j=.none/\iD P nt y d H' K):iD P nt (.seq x y) fr H K:=by
 intro D E w cc b a c u v k cs;induction cc generalizing k with
 |scope x z=>simp only[eX]at c;obtain⟨j,d,H',e,p,w',t,f,g,i,m,n,o,q⟩:=z c (.inScope x::k);refine .iY (.one L8) (.iY q ?_);cases j with|none=>rw[show t=.inScope x::k from o];exact .iY (.one L9) ⟨.none,d,H',e,p,w',k,f,g,i,m,n,rfl,Steps.refl _ _⟩|exit id=>exact⟨.exit id,d,H',e,p,w',t,f,g,i,m,n,o.sX (λ_ _=>rfl) trivial,Steps.refl _ _⟩|ret=>exact⟨.ret,d,H',e,p,w',t,f,g,i,m,n,o.sX (λ_ _=>rfl) trivial,Steps.refl _ _⟩
 |seq F r _ _=>
  simp only[eX]at c;split at c
  .rename_i G I A B;injection c with c;split at c;·cases c
   injection c with e1 e2;subst e1;subst e2;obtain⟨j,d,H',e,p,w',t,f,g,i,m,n,o,q⟩:=h1 A u v (.code r::k) cs;obtain⟨rfl,C⟩:=h2 j d H' f;refine .iY (.one stepR_seq) (.iY q ?_);rw[show t=.code r::k from o];exact .vS g n (C B i m k cs)
  cases c
 |region id aC s=>simp only[eX,aho]at c;obtain⟨_,_,h⟩:=c;cases h
 |skip=>simp[eX]at c
 |label l=>simp[eX]at c
 |cond c0 x y _ _=>simp only[eX]at c;split at c<;>simp at c
 |block id x _=>simp only[eX,aho]at c;obtain⟨_,_,h⟩:=c;cases h
 |loop x _=>simp only[eX,aho]at c;obtain⟨_,_,h⟩:=c;cases h
 |_=>simp[eX]at c<;>(try(split at c<;>simp at c))
theorem ag9{ac:Nat->aG}(K:kr P ac){f:Nat}{rs:List iW}{body:bt}(hg:ac f=.code nt rs body){H:ai}{v:AV}{args:List AV}(hl:args.length<=nt)(he:iD P nt body ⟨kJ args .xH .aL,[],none⟩ H λj fr H'=>(match j with|.exit _=>False|_=>True)/\fr.bI=[]/\∃l,gZ fr.aa H' rs=some l/\v=iL l){F:cU}{p:aP}{w:World}{argv:Array Value}(L:bj p args argv.toList)(M:bz P F p H w):Calls P f argv w λe w'=>∃H' c,e=.returned c/\dp P F p w v H' c w':=by
 intro cs;obtain⟨fn,k,m,B⟩:=K.code f nt rs body hg;simp only[uA,ae5,aed,ajB,adG,aG.code.injEq]at m;obtain⟨cc,r,C,i,Z,s,e1,e2,N⟩:=m;subst e1;subst e2;subst N;let b:Frame:={(default:Frame)with fn:=f,kind:=.normal};let a:Act:={tmps:=argv++alH (fn.ntmps - argv.size) undef,defers:=[]};have g:Frame.enter P f argv .normal=b.atR a [.code cc]:=by simp only[Frame.enter,Frame.atR,k,r,b,a,akt,akQ,alr];rfl
 have O:iM p fn.ntmps ⟨kJ args .xH .aL,[],none⟩ b.roundOf a:=⟨GW L hl,trivial,trivial⟩;obtain⟨j,u,H',x,q,w',t,⟨h0,y,l,z,A⟩,h2,h3,Q,R,G,S⟩:=he i O M [] cs;have n:∃h:Frame,h={b.atR q h.todo with mode:=.returning}/\step P (lone (b.atR q t) cs w')=.next (lone h cs w'):=by cases j with|none=>rw[show t=[]from G];exact⟨_,rfl,stepR_end rfl⟩|exit id=>exact h0.elim|ret=>obtain⟨k0,rfl⟩:=G;exact⟨_,rfl,stepR_ret rfl⟩
 obtain⟨h,d,eh⟩:=n;have T:jN H' u.bI=some H':=by rw[y];rfl
 have o:h={h with defers:=q.defers}:=by rw[d];rfl
 obtain⟨V,I,J,W⟩:=DL Q h3.D T h cs (by rw[d]);rw[<-o]at I;obtain⟨c,X,Y⟩:=GZ J h3.E s z;subst A;refine⟨.returned c,V,{h with defers:=[]},⟨H',c,rfl,x,h2,Y,J,R.trans W⟩,?_,?_,?_⟩;·rw[g];exact S.trans (.head eh I)
 .rw[d];rfl
 refine⟨by rw[d],rfl,by rw[d];rfl,fn,by rw[d];exact k,?_⟩;rw[d];exact X
abbrev LV:=List (ab×AV)
abbrev LO:=List (ab×cq)
def Ku:LV->ap AV->Prop
 |[],_=>True
 |(p,v)::l,e=>e.get .alR p=v/\Ku l e
def Kv:LO->ai->Prop
 |[],_=>True
 |(p,o)::l,H=>H.get p=o/\Kv l H
def Kw:LV->Prop
 |[]=>True
 |(_,v)::l=>v=v/\Kw l
def Kx:LO->Prop
 |[]=>True
 |(_,o)::l=>o=o/\Kx l
theorem Rl:∀l,Kw l|[]=>trivial|_::l=>⟨rfl,Rl l⟩
theorem Rm:∀l,Kx l|[]=>trivial|_::l=>⟨rfl,Rm l⟩
def At(L:LV)(O:LO)(X:ab)(j:cP)(fr:Fr)(H:ai):Prop:=j=.none/\fr.bI=[]/\fr.bG=none/\H.next=X/\Ku L fr.aa/\Kv O H
def vI(L:LV)(O:LO)(X:ab):Prop:=cP.none=cP.none/\([]:List ab)=[]/\(none:Option ab)=none/\X=X/\Kw L/\Kx O
theorem aha(L:LV)(O:LO)(X:ab):vI L O X:=⟨rfl,rfl,rfl,rfl,Rl L,Rm O⟩
def jt:Nat->ap AV
 |0=>.aL
 |n+1=>.node (jt n) .co (jt n)
def kW:LV->ap AV
 |[]=>jt 8
 |(p,v)::l=>(kW l).set .alR p v
def j5:LO->ap cq
 |[]=>.aL
 |(p,o)::l=>(j5 l).set .none p o
theorem Ky:∀(n:Nat)(p:ab),p.an<2^n->(jt n).get .alR p=.co
 |0,p,h=>by grind[ab.uB]
 |n+1,.xH,_=>rfl
 |n+1,.xO p,h=>by
  have:p.an<2^n:=by simp only[ab.an]at h;rw[Nat.pow_succ]at h;omega
  exact Ky n p this
 |n+1,.xI p,h=>by
  have:p.an<2^n:=by simp only[ab.an]at h;rw[Nat.pow_succ]at h;omega
  exact Ky n p this
theorem Rn{q:ab}(a:q.an<256):∀{L:LV}{e:ap AV},Ku L e->(kW L).get .alR q=.co\/(kW L).get .alR q=e.get .alR q
 |[],e,_=>.inl (Ky 8 q (by simpa using a))
 |(p,v)::l,e,h=>by
  simp only[kW,ap.aF];split;·rename_i b;right;rw[b,h.1]
  exact Rn a h.2
theorem ai.Kz:∀q:ab,(ap.aL:ap cq).get .none q=.none|.xH=>rfl|.xO p=>ai.Kz p|.xI p=>ai.Kz p
theorem Ro{q:ab}:∀{O:LO}{H:ai},Kv O H->(j5 O).get .none q=.none\/(j5 O).get .none q=H.get q
 |[],H,_=>.inl (ai.Kz q)
 |(p,o)::l,H,h=>by
  simp only[j5,ap.aF];split;·rename_i a;right;rw[a,h.1]
  exact Ro h.2
theorem iD.at{c:bt}{K:cP->Fr->ai->Prop}{L:LV}{O:LO}{X:ab}{j:cP}{fr:Fr}{H:ai}(f:nt<=255)(h:At L O X j fr H)(a:iD P nt c ⟨kW L,[],none⟩ ⟨j5 O,X⟩ K):j=.none/\iD P nt c fr H K:=by obtain⟨h1,h2,h3,b,d,e⟩:=h;obtain⟨aa,m,r⟩:=fr;subst h2;subst h3;exact⟨h1,iD.rZ (Hs:=⟨j5 O,X⟩) b.symm (λi=>show(j5 O).get .none i=.none\/(j5 O).get .none i=H.get i from Ro e) (λt g=>Rn (by grind[ab.ml]) d) a⟩
end
section
variable{P:Program}
def Dd(args:List AV)(H:ai):Option (AV×ai):=
 match args with
 |[]=>some (.bool true,H)
 |_=>none
theorem ahb{f n:Nat}(p:HL P f)(q:P.globals.size=n)(h:∀{d:cU}{a:aP}{w:World},bz P d a ⟨.aL,ab.dF n⟩ w->Calls P f #[] w λe w'=>∃H' c,e=.returned c/\dp P d a w (.bool true) H' c w'):xD P f Dd:=by
 intro d a H H' w args v argv hg r g fr cs hat;unfold Dd at hg;split at hg;case h_2=>cases hg
 injection hg with hg;injection hg with j k;subst j;subst k;obtain⟨l⟩:=argv;cases l with
 |cons _ _=>simp[bj]at r
 |nil=>
  have m:n<=w.heap.size:=by cases n with|zero=>exact Nat.zero_le _|succ n=>exact g.fH _ _ _ (g.mq n (by omega))
  refine HM p (h (VQ q m)) ?_ fr cs hat;rintro e w'⟨H',c,rfl,s,u,o,t,b⟩;refine⟨c,rfl,a,cL.refl a,?_,?_⟩;·cases c<;>simp only[VR]at o⊢;exact o
  refine bz.grow g (os:=w'.heap.extract w.heap.size w'.heap.size) ?_ b.os b.tape b.output;apply Array.ext_getElem?;intro i;rw[Array.getElem?_append];split;·rename_i hi;exact b.block i hi (by show¬(w.heap.size<=i);omega)
  rename_i hi;rw[Array.getElem?_extract];split;·congr 1;omega
  rw[akX (by omega)]
end
end
end Go.am
namespace Go.am.R1
section
open Go.am Go.am.R
def hd:bt->bt
 |.seq a _=>a
 |c=>c
def tl:bt->bt
 |.seq _ b=>b
 |c=>c
def zb:bt:=match e 10 with
 |.code _ _ b=>b
 |_=>.skip
def zz:Nat->Nat->ab
 |0,_=>.xH
 |k+1,n=>bif akb n 1 then .xH else bif akb (n % 2) 1 then .xI (zz k (n/2))else .xO (zz k (n/2))
abbrev z:=zz 20
def L0:LV:=[]
def O0:LO:=[]
def X0:ab:=ab.dF 6
def c0:bt:=tl zb
def c1:bt:=tl c0
def c2:bt:=tl c1
def c3:bt:=tl c2
def c4:bt:=tl c3
def c5:bt:=tl c4
def c6:bt:=tl c5
def c7:bt:=tl c6
def L1:LV:=[(p1,(.slice (z 1737) 0 3 3 false)),(p2,(i 3 0))]++L0
def O1:LO:=[(z 1735,.cells (.node (.node .aL (i 3 4) .aL) (i 3 3) (.node .aL (i 3 6) .aL)) 3 3 true [] 0),(z 1729,.cells (.node (.node .aL (i 3 4) .aL) (i 3 3) .aL) 2 3 true [] 0),(z 1732,.cells (.node (.node .aL (i 3 4) .aL) (i 3 3) (.node .aL (i 3 5) .aL)) 3 3 true [] 0),(z 1737,.cells (.node (.node .aL (.slice (z 1732) 0 3 3 false) .aL) (.slice (z 1729) 0 2 2 false) (.node .aL (.slice (z 1735) 0 3 3 false) .aL)) 3 42 true [(z 1734),(z 1731)] 0)]++O0
def X1:ab:=z 1738
def L2:LV:=[(p3,(.slice (z 3496) 0 7 7 false)),(p4,(i 3 0))]++L1
def O2:LO:=[(z 3494,.cells (.node (.node .aL (i 3 10) .aL) (i 3 7) .aL) 2 3 true [] 0),(z 3482,.cells (.node (.node .aL (i 3 7) .aL) (i 3 3) .aL) 2 3 true [] 0),(z 3488,.cells (.node (.node .aL (i 3 7) .aL) (i 3 3) (.node .aL (i 3 9) .aL)) 3 3 true [] 0),(z 3476,.cells (.node (.node .aL (i 3 4) .aL) (i 3 3) .aL) 2 3 true [] 0),(z 3491,.cells (.node (.node .aL (i 3 10) .aL) (i 3 7) .aL) 2 3 true [] 0),(z 3479,.cells (.node (.node .aL (i 3 4) .aL) (i 3 3) .aL) 2 3 true [] 0),(z 3485,.cells (.node (.node .aL (i 3 7) .aL) (i 3 3) .aL) 2 3 true [] 0),(z 3496,.cells (.node (.node (.node .aL (.slice (z 3485) 0 2 2 false) .aL) (.slice (z 3479) 0 2 2 false) (.node .aL (.slice (z 3491) 0 2 2 false) .aL)) (.slice (z 3476) 0 2 2 false) (.node (.node .aL (.slice (z 3488) 0 3 3 false) .aL) (.slice (z 3482) 0 2 2 false) (.node .aL (.slice (z 3494) 0 2 2 false) .aL))) 7 42 true [(z 3493),(z 3490),(z 3487),(z 3484),(z 3481),(z 3478)] 0)]++O1
def X2:ab:=z 3497
def L3:LV:=[(p5,(i 3 3)),(p6,(i 3 0))]++L2
def O3:LO:=[]++O2
def X3:ab:=z 5384
def L4:LV:=[(p7,(.slice (z 7353) 0 13 13 false)),(p8,(i 3 0))]++L3
def O4:LO:=[(z 7333,.cells (.node (.node .aL (i 3 4) .aL) (i 3 3) .aL) 2 3 true [] 0),(z 7345,.cells (.node (.node .aL (i 3 11) .aL) (i 3 7) .aL) 2 3 true [] 0),(z 7321,.cells (.node .aL (i 3 0) .aL) 1 3 true [] 0),(z 7351,.cells (.node .aL (i 3 4) .aL) 1 3 true [] 0),(z 7327,.cells (.node (.node (.node .aL (i 3 12) .aL) (i 3 5) .aL) (i 3 3) (.node .aL (i 3 6) .aL)) 4 3 true [] 0),(z 7339,.cells (.node (.node .aL (i 3 7) .aL) (i 3 3) .aL) 2 3 true [] 0),(z 7315,.cells (.node (.node .aL (i 3 2) .aL) (i 3 1) .aL) 2 3 true [] 0),(z 7330,.cells (.node (.node .aL (i 3 4) .aL) (i 3 3) .aL) 2 3 true [] 0),(z 7342,.cells (.node (.node .aL (i 3 7) .aL) (i 3 3) .aL) 2 3 true [] 0),(z 7318,.cells (.node .aL (i 3 0) .aL) 1 3 true [] 0),(z 7348,.cells (.node (.node .aL (i 3 10) .aL) (i 3 7) .aL) 2 3 true [] 0),(z 7324,.cells (.node (.node (.node .aL (i 3 7) .aL) (i 3 5) (.node .aL (i 3 9) .aL)) (i 3 4) (.node (.node .aL (i 3 8) .aL) (i 3 6) .aL)) 6 3 true [] 0),(z 7336,.cells (.node (.node (.node .aL (i 3 10) .aL) (i 3 8) .aL) (i 3 3) (.node (.node .aL (i 3 11) .aL) (i 3 9) .aL)) 5 3 true [] 0),(z 7353,.cells (.node (.node (.node (.node .aL (.slice (z 7336) 0 5 5 false) .aL) (.slice (z 7324) 0 6 6 false) (.node .aL (.slice (z 7348) 0 2 2 false) .aL)) (.slice (z 7318) 0 1 1 false) (.node (.node .aL (.slice (z 7342) 0 2 2 false) .aL) (.slice (z 7330) 0 2 2 false) .aL)) (.slice (z 7315) 0 2 2 false) (.node (.node (.node .aL (.slice (z 7339) 0 2 2 false) .aL) (.slice (z 7327) 0 4 4 false) (.node .aL (.slice (z 7351) 0 1 1 false) .aL)) (.slice (z 7321) 0 1 1 false) (.node (.node .aL (.slice (z 7345) 0 2 2 false) .aL) (.slice (z 7333) 0 2 2 false) .aL))) 13 42 true [(z 7350),(z 7347),(z 7344),(z 7341),(z 7338),(z 7335),(z 7332),(z 7329),(z 7326),(z 7323),(z 7320),(z 7317)] 0)]++O3
def X4:ab:=z 7354
def L5:LV:=[(p9,(.slice (z 9288) 0 13 13 true)),(aO,(i 3 0))]++L4
def O5:LO:=[(z 9288,.cells (.node (.node (.node (.node .aL (i 3 1) .aL) (i 3 0) (.node .aL (i 3 2) .aL)) (i 3 1) (.node (.node .aL (i 3 2) .aL) (i 3 2) .aL)) (i 3 0) (.node (.node (.node .aL (i 3 2) .aL) (i 3 1) (.node .aL (i 3 0) .aL)) (i 3 1) (.node (.node .aL (i 3 0) .aL) (i 3 2) .aL))) 13 3 true [] 0)]++O4
def X5:ab:=z 9331
def L6:LV:=[(aR,(.slice (z 9428) 0 4 4 false)),(aY,(i 3 0))]++L5
def O6:LO:=[(z 9428,.cells (.node (.node (.node (.node .aL (i 3 9) .aL) (i 3 1) .aL) (i 3 0) (.node .aL (i 3 2) .aL)) (i 3 9) (.node (.node .aL (i 3 1) .aL) (i 3 0) (.node .aL (i 3 2) .aL))) 8 70 true [(z 9425),(z 9422),(z 9419)] 0)]++O5
def X6:ab:=z 9429
def L7:LV:=[(aX,(.slice (z 9479) 0 2 2 false)),(bi,(i 3 0))]++L6
def O7:LO:=[(z 9479,.cells (.node (.node (.node .aL (i 3 5) .aL) (i 3 0) .aL) (i 3 1) (.node .aL (i 3 0) .aL)) 4 70 true [(z 9476)] 0)]++O6
def X7:ab:=z 9480
end
end Go.am.R1
end
