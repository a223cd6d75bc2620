/- A part of the proof. No conditions. -/
import Derived.Test.YtjhkgigolpfcfaaGreatDoorA05
import Derived.Test.YtjhkgigolpfcfaaGreatDoorA06
import Derived.Test.YtjhkgigolpfcfaaGreatDoorA07
import Derived.Test.YtjhkgigolpfcfaaGreatDoorA08
import Derived.Laws.RangeAny
set_option linter.all false
open Option.some renaming injEq->adG
open List renaming mem_singleton->aep,mem_cons_of_mem->aey,mem_cons_self->aeU,length_cons->akA,length_take->akF,getElem?_cons_succ->ak6,length_drop->alC
open Nat renaming beq->akb,le_of_ble_eq_true->akc,blt->akv,blt_eq->akY,ble->ak2,add_assoc->alo,min_eq_left->aly
open List.Perm renaming swap->akS
open Eq renaming mpr->alN
noncomputable section
namespace Go.am.R
abbrev Ih:=292
abbrev dW:=56
abbrev mE:=161
abbrev fI:=24
abbrev wA:=257
abbrev eH:=42
abbrev yi:=217
abbrev nN:=260
abbrev tx:=54
abbrev qU:=58
abbrev yj:=64
abbrev Ii:=255
abbrev Ij:=252
abbrev ND:=256
abbrev V9:=246
abbrev V':=194
abbrev Wa:=195
abbrev Wb:=61
abbrev Wc:=78
abbrev iH:=72
abbrev NE:=168
abbrev Ik:=123
abbrev eT:=82
abbrev oU:=79
abbrev NF:=197
abbrev wB:=196
abbrev nO:=139
abbrev Il:=135
abbrev Ap:=86
abbrev Ek:=232
abbrev tz:=109
abbrev nP:=234
abbrev Im:=177
abbrev NG:=50
def p0:ab:=.xH
def p1:ab:=.xO p0
def p2:ab:=.xI p0
def p3:ab:=.xO p1
def p4:ab:=.xI p1
def p5:ab:=.xO p2
def p6:ab:=.xI p2
def p7:ab:=.xO p3
def p8:ab:=.xI p3
def p9:ab:=.xO p4
def aO:ab:=.xI p4
def aR:ab:=.xO p5
def aY:ab:=.xI p5
def aX:ab:=.xO p6
def bi:ab:=.xI p6
def bk:ab:=.xO p7
def bo:ab:=.xI p7
def aZ:ab:=.xO p8
def br:ab:=.xI p8
def bJ:ab:=.xO p9
def bN:ab:=.xI p9
def bR:ab:=.xO aO
def bO:ab:=.xI aO
def bL:ab:=.xO aR
def bK:ab:=.xI aR
def bT:ab:=.xO aY
def ch:ab:=.xI aY
def bY:ab:=.xO aX
def ct:ab:=.xI aX
def cz:ab:=.xO bi
def b7:ab:=.xI bi
def cW:ab:=.xO bk
def cV:ab:=.xI bk
def cH:ab:=.xO bo
def di:ab:=.xI bo
def cD:ab:=.xO aZ
def bZ:ab:=.xI aZ
def dl:ab:=.xO br
def dh:ab:=.xI br
def du:ab:=.xO bJ
def dw:ab:=.xI bJ
def dg:ab:=.xO bN
def da:ab:=.xI bN
def dj:ab:=.xO bR
def dq:ab:=.xI bR
def dA:ab:=.xO bO
def dt:ab:=.xI bO
def cJ:ab:=.xO bL
def dB:ab:=.xI bL
def dH:ab:=.xO bK
def dX:ab:=.xI bK
def dM:ab:=.xO bT
def dk:ab:=.xI bT
def cR:ab:=.xO ch
def dY:ab:=.xI ch
def dZ:ab:=.xO bY
def dR:ab:=.xI bY
def eM:ab:=.xO ct
def d9:ab:=.xI ct
def eI:ab:=.xO cz
def eN:ab:=.xI cz
def eg:ab:=.xO b7
def ep:ab:=.xI b7
def fy:ab:=.xO cW
def fS:ab:=.xI cW
def fg:ab:=.xO cV
def eO:ab:=.xI cV
def gp:ab:=.xO cH
def eJ:ab:=.xI cH
def fJ:ab:=.xO di
def fU:ab:=.xI di
def gf:ab:=.xO cD
def fK:ab:=.xI cD
def eR:ab:=.xO bZ
def fV:ab:=.xI bZ
def ff:ab:=.xO dl
def fL:ab:=.xI dl
def fW:ab:=.xO dh
def ie:ab:=.xI dh
def fM:ab:=.xO du
def iq:ab:=.xI du
def iB:ab:=.xO dw
def ir:ab:=.xI dw
def iC:ab:=.xO dg
def iU:ab:=.xI dg
def jD:ab:=.xO da
def jk:ab:=.xI da
def kl:ab:=.xO dj
def jw:ab:=.xI dj
def lE:ab:=.xO dq
def mR:ab:=.xI dq
def l8:ab:=.xO dA
def lh:ab:=.xI dA
def jV:ab:=.xO dt
def kA:ab:=.xI dt
def jW:ab:=.xO cJ
def nQ:ab:=.xI cJ
def mS:ab:=.xO dB
def li:ab:=.xI dB
def mT:ab:=.xO dH
def nR:ab:=.xI dH
def oV:ab:=.xO dX
def oW:ab:=.xI dX
def oX:ab:=.xO dM
def lj:ab:=.xI dM
def km:ab:=.xO dk
def mF:ab:=.xI dk
def mU:ab:=.xO cR
def lF:ab:=.xI cR
def pz:ab:=.xO dY
def lm:ab:=.xI dY
def nS:ab:=.xO dZ
def oY:ab:=.xI dZ
def lG:ab:=.xO dR
def lH:ab:=.xI dR
def kP:ab:=.xO eM
def l9:ab:=.xI eM
def nT:ab:=.xO d9
def lI:ab:=.xI d9
def nU:ab:=.xO eI
def nV:ab:=.xI eI
def lJ:ab:=.xO eN
def nW:ab:=.xI eN
def pA:ab:=.xO eg
def qV:ab:=.xI eg
def nX:ab:=.xO ep
def kB:ab:=.xI ep
def qW:ab:=.xO fy
def qf:ab:=.xI fy
def oZ:ab:=.xO fS
def qh:ab:=.xI fS
def pB:ab:=.xO fg
def tA:ab:=.xI fg
def qX:ab:=.xO eO
def mV:ab:=.xI eO
def sc:ab:=.xO gp
def uV:ab:=.xI gp
def uW:ab:=.xO eJ
def nY:ab:=.xI eJ
def wC:ab:=.xO fJ
def wD:ab:=.xI fJ
def tC:ab:=.xO fU
def sd:ab:=.xI fU
def tD:ab:=.xO gf
def wE:ab:=.xI gf
def tE:ab:=.xO fK
def Aq:ab:=.xI fK
def yl:ab:=.xO eR
def Cc:ab:=.xI eR
def pC:ab:=.xO fV
def yn:ab:=.xI fV
def yo:ab:=.xO ff
def Ar:ab:=.xI ff
def As:ab:=.xO fL
def yp:ab:=.xI fL
def Au:ab:=.xO fW
def Av:ab:=.xI fW
def Aw:ab:=.xO ie
def Cd:ab:=.xI ie
def El:ab:=.xO fM
def Io:ab:=.xI fM
def Ip:ab:=.xO iq
def Ce:ab:=.xI iq
def wF:ab:=.xO iB
def wG:ab:=.xI iB
def Em:ab:=.xO ir
def Cf:ab:=.xI ir
def En:ab:=.xO iC
def Iq:ab:=.xI iC
def yq:ab:=.xO iU
def Eo:ab:=.xI iU
def Ep:ab:=.xO jD
def yr:ab:=.xI jD
def Er:ab:=.xO jk
def Es:ab:=.xI jk
def Ir:ab:=.xO kl
def Et:ab:=.xI kl
def Eu:ab:=.xO jw
def qY:ab:=.xI jw
def Ev:ab:=.xO lE
def Cg:ab:=.xI lE
def NH:ab:=.xO mR
def Ci:ab:=.xI mR
def NI:ab:=.xO l8
def Is:ab:=.xI l8
def It:ab:=.xO lh
def NJ:ab:=.xI lh
def qZ:ab:=.xO jV
def NK:ab:=.xI jV
def NL:ab:=.xO kA
def Ew:ab:=.xI kA
def NM:ab:=.xO jW
def NN:ab:=.xI jW
def NO:ab:=.xO nQ
def NP:ab:=.xI nQ
def NQ:ab:=.xO mS
def Iu:ab:=.xI mS
def NR:ab:=.xO li
def NS:ab:=.xI li
def ahD:ab:=.xO mT
def ahE:ab:=.xI mT
def ahF:ab:=.xO nR
def ahG:ab:=.xI nR
def ahH:ab:=.xO oV
def ahI:ab:=.xI oV
def ahJ:ab:=.xO oW
def ahK:ab:=.xI oW
def ahL:ab:=.xO oX
def ahM:ab:=.xI oX
def ahN:ab:=.xO lj
def ahO:ab:=.xI lj
def ahP:ab:=.xO km
def ahQ:ab:=.xI km
def ahR:ab:=.xO mF
def ahS:ab:=.xI mF
def ahT:ab:=.xO mU
def ahU:ab:=.xI mU
def ahV:ab:=.xO lF
def ahW:ab:=.xI lF
def ahX:ab:=.xO pz
def ahY:ab:=.xI pz
def ahZ:ab:=.xO lm
def ah0:ab:=.xI lm
def ah1:ab:=.xO nS
def ah2:ab:=.xI nS
def ah3:ab:=.xO oY
def ah4:ab:=.xI oY
def ah5:ab:=.xO lG
def ah6:ab:=.xI lG
def ah7:ab:=.xO lH
def ah8:ab:=.xI lH
def ah9:ab:=.xO kP
def aia:ab:=.xI kP
def aib:ab:=.xO l9
def aic:ab:=.xI l9
def aid:ab:=.xO nT
def aie:ab:=.xI nT
def aif:ab:=.xO lI
def aig:ab:=.xI lI
def aih:ab:=.xO nU
def aii:ab:=.xI nU
def aij:ab:=.xO nV
def aik:ab:=.xI nV
def ail:ab:=.xO lJ
def aim:ab:=.xI lJ
def ain:ab:=.xO nW
def aio:ab:=.xI nW
def aip:ab:=.xO pA
def aiq:ab:=.xI pA
def air:ab:=.xO qV
def ais:ab:=.xI qV
def ait:ab:=.xO nX
def aiu:ab:=.xI nX
def aiv:ab:=.xO kB
def aiw:ab:=.xI kB
def aix:ab:=.xO qW
def aiy:ab:=.xI qW
def aiz:ab:=.xO qf
def aiA:ab:=.xI qf
def aiB:ab:=.xO oZ
def aiC:ab:=.xI oZ
def aiD:ab:=.xO qh
def aiE:ab:=.xI qh
def aiF:ab:=.xO pB
def aiG:ab:=.xI pB
def aiH:ab:=.xO tA
def aiI:ab:=.xI tA
def aiJ:ab:=.xO qX
def aiK:ab:=.xI qX
def aiL:ab:=.xO mV
def aiM:ab:=.xI mV
def aiN:ab:=.xO sc
def aiO:ab:=.xI sc
def aiP:ab:=.xO uV
def aiQ:ab:=.xI uV
def aiR:ab:=.xO uW
def aiS:ab:=.xI uW
def aiT:ab:=.xO nY
def aiU:ab:=.xI nY
def aiV:ab:=.xO wC
def aiW:ab:=.xI wC
def aiX:ab:=.xO wD
def aiY:ab:=.xI wD
def aiZ:ab:=.xO tC
def ai0:ab:=.xI tC
def ai1:ab:=.xO sd
def ai2:ab:=.xI sd
def ai3:ab:=.xO tD
def ai4:ab:=.xI tD
def ai5:ab:=.xO wE
def ai6:ab:=.xI wE
def ai7:ab:=.xO tE
def ai8:ab:=.xI tE
def ai9:ab:=.xO Aq
def aja:ab:=.xI Aq
def ajb:ab:=.xO yl
def ajc:ab:=.xI yl
def ajd:ab:=.xO Cc
def aje:ab:=.xI Cc
def ajf:ab:=.xO pC
def ajg:ab:=.xI pC
def ajh:ab:=.xO yn
def aji:ab:=.xI yn
def ajj:ab:=.xO yo
def ajk:ab:=.xI yo
def ajl:ab:=.xO Ar
def ajm:ab:=.xI Ar
def ajn:ab:=.xO As
def ajo:ab:=.xI As
def ajp:ab:=.xO yp
def ajq:ab:=.xI yp
def ajr:ab:=.xO Au
def ajs:ab:=.xI Au
def ajt:ab:=.xO Av
def aju:ab:=.xI Av
def ajv:ab:=.xO Aw
def ajw:ab:=.xI Aw
def ajx:ab:=.xO Cd
def ajy:ab:=.xI Cd
def ajz:ab:=.xO El
def ajA:ab:=.xI El
abbrev Y6:=3
abbrev We:=9
abbrev NT:=10
abbrev Wf:=11
abbrev aoq:=12
abbrev Wg:=13
abbrev Y7:=14
abbrev Y8:=15
abbrev Y':=16
abbrev aor:=17
abbrev Wh:=18
abbrev Wi:=21
abbrev Wj:=22
abbrev Wk:=23
abbrev aos:=27
abbrev Wm:=28
abbrev Wn:=29
abbrev Wo:=33
abbrev NU:=34
abbrev Wp:=35
abbrev aot:=36
abbrev Wq:=37
abbrev Ws:=39
abbrev Wt:=40
abbrev Wu:=41
abbrev Wv:=42
abbrev Za:=43
abbrev Zb:=44
abbrev Ww:=45
abbrev Zc:=46
abbrev Zd:=47
abbrev aou:=49
abbrev Wx:=50
abbrev Wy:=52
abbrev Wz:=53
abbrev WA:=56
abbrev WB:=57
abbrev WC:=59
abbrev WD:=60
abbrev WE:=61
abbrev WF:=68
abbrev WG:=73
abbrev WH:=74
abbrev WI:=75
abbrev aov:=76
abbrev WJ:=77
abbrev NV:=78
abbrev WK:=82
abbrev WL:=83
abbrev WM:=84
abbrev WN:=85
abbrev Zg:=86
abbrev Zh:=87
abbrev Iv:=88
abbrev WO:=89
abbrev WP:=91
abbrev WQ:=92
abbrev WR:=96
abbrev WS:=113
abbrev WT:=114
abbrev WU:=115
abbrev WV:=116
abbrev Ex:=117
abbrev WW:=118
abbrev WX:=119
abbrev WY:=121
abbrev WZ:=122
abbrev W0:=124
abbrev W1:=125
abbrev W2:=126
abbrev W3:=127
abbrev W4:=128
abbrev W5:=129
abbrev Zi:=130
abbrev W6:=131
abbrev Ey:=132
abbrev W7:=133
abbrev W8:=140
abbrev W9:=141
abbrev Xa:=142
abbrev Xb:=143
abbrev Xd:=145
abbrev Xe:=146
abbrev Xg:=147
abbrev Xh:=149
abbrev Xi:=151
abbrev Xj:=171
abbrev Xk:=172
abbrev NW:=173
abbrev Xl:=174
abbrev Xm:=175
abbrev Xn:=176
abbrev Xp:=177
abbrev Iw:=178
abbrev Xq:=180
abbrev Xr:=181
abbrev Xs:=182
abbrev NX:=191
abbrev NY:=192
abbrev NZ:=193
abbrev Ix:=194
abbrev Xt:=195
abbrev Iy:=196
abbrev Xu:=197
abbrev Xv:=198
abbrev Iz:=199
abbrev N0:=200
abbrev Xw:=201
abbrev Xx:=202
abbrev Xy:=203
abbrev Xz:=204
abbrev Ez:=205
abbrev XA:=206
abbrev EA:=207
abbrev EB:=208
abbrev XB:=209
abbrev XC:=214
abbrev XD:=215
abbrev XE:=219
abbrev IA:=220
abbrev N1:=221
abbrev XF:=222
abbrev XG:=223
abbrev XH:=226
abbrev XI:=227
abbrev XJ:=228
abbrev XK:=229
abbrev XL:=230
abbrev XM:=232
abbrev XN:=233
abbrev N3:=234
abbrev XO:=235
abbrev XP:=236
abbrev XQ:=238
abbrev XR:=239
abbrev N4:=240
abbrev XS:=241
abbrev XT:=242
abbrev XU:=243
abbrev IB:=244
abbrev XV:=245
abbrev XW:=247
abbrev N5:=254
abbrev N6:=38
namespace Y
abbrev m(d a:ab):=O d (.bg (T a))
abbrev l(d a:ab):=O d (.aW (T a))
abbrev a(d:ab)(n:Nat)(a:ab):=O d (.j6 n (T a))
abbrev x(d:ab)(n:Nat)(a b:ab):=O d (.dG n (T a) (T b))
abbrev s(n:Nat)(a b:ab):=N (.store n (T a) (T b))
abbrev k(d:ab)(n:Nat):=O d (.bg (I 3 n))
abbrev z(d a:ab):=O d (.j7 (T a))
abbrev e(d a:ab)(n:Nat):=O d (.arith .eql 3 (T a) (I 3 n))
abbrev eu(d a:ab)(n:Nat):=O d (.arith .eql 2 (T a) (I 2 n))
abbrev f(d:ab):=O d (.bg (C (.bool false)))
abbrev kC(d:ab):=O d (.bg (C (.bool true)))
abbrev ld(d:ab)(n:Nat)(a:ab):=O d (.gw n (T a))
abbrev gm(d a g:ab)(b:Bool):=G d (.bg (T a)) g b
abbrev gl(d a g:ab)(b:Bool):=G d (.aW (T a)) g b
abbrev ga(d:ab)(n:Nat)(a g:ab)(b:Bool):=G d (.j6 n (T a)) g b
abbrev u(d a b:ab):=O d (.arith .lss 3 (T a) (T b))
abbrev pl(d a:ab)(n:Nat):=O d (.arith .add 3 (T a) (I 3 n))
abbrev b(d:ab)(n:Nat)(a:ab):=O d (.box n (T a))
abbrev o(d a b:ab):=O d (.pick (T a) (C (.bool true)) (T b))
abbrev y(d a b:ab):=O d (.pick (T a) (T b) (C (.bool false)))
abbrev no(d a:ab):=O d (.unary .not (T a))
abbrev c(d:ab)(n:Nat)(l:List aJ):=O d (.call (C (.func n [] [])) l)
abbrev ex(d a:ab)(n:Nat):=O d (.extract (T a) n)
abbrev nc(d a:ab):=O d (.nilCheck (T a))
abbrev nl(d:ab):=O d (.bg (C .aS))
abbrev cT:=C (.bool true)
abbrev cF:=C (.bool false)
abbrev cN:=C .aS
abbrev r:=bt.region
abbrev S:=bt.seq
abbrev H:=bt.cond
abbrev Bl:=bt.block
abbrev Lp:=bt.loop
abbrev X:=bt.exit
abbrev q(l:List be)(x:bt):bt:=.seq (.region l) x
abbrev fA:=T aO
abbrev kD:=T aR
abbrev kQ:=T aX
abbrev jE:=T bo
abbrev jF:=T aZ
abbrev qi:=T bR
abbrev qk:=T bY
abbrev nZ:=T cz
abbrev yt:=T b7
abbrev tG:=T cV
abbrev rc:=T cH
abbrev n8:=T di
abbrev yu:=T bZ
abbrev uX:=T dh
abbrev sf:=T du
abbrev tH:=T dw
abbrev Ax:=T da
abbrev uY:=T dj
abbrev t46:=T dt
abbrev tJ:=T cJ
abbrev t51:=T dM
abbrev yz:=T dk
abbrev i0:=I 3 0
abbrev v0:=Go.am.i 3 0
end Y
open Y
def Zj:bt:=(q [b p2 24 p0,f p4] (S (q [ld aO 4 p2,c aR 9 [fA]] (H kD (q [c aY 10 [],m p4 aY] .ret) .skip)) (q [ld aX 4 p2,c bi 11 [kQ],O p5 (.alloc 24 [(.str []),v0,v0,.aS]),s 4 p5 bi] (q [ld bo 4 p5,m aZ p1,c br 12 [jE,jF],m bk br,ex bJ bk 0,ex bN bk 1,m p6 bJ,m p7 bN] (q [ld bR 4 p2,c bO 13 [qi],O bL (.buildSlice 42 0 [.aS] []),m p8 bO,m p9 bL] (S (q [m bK p8,e bT bK 0,m ch bT,gm bY p1 ch true,G ct (.arith .lss 3 qk i0) ch true,gm cz ct ch true,gm b7 p1 cz false,ga cW 3 p2 cz false,gl cV cW cz false,G cH (.j7 tG) cz false,G di (.arith .geq 3 yt rc) cz false,G cD (.pick nZ cT n8) ch true,y bZ ch cD] (H yu (r [k p8 7]) .skip)) (S (q [m dl p8,e dh dl 0] (H uX (r [ld du 4 p2,m dw p1,c dg 14 [sf,tH],m p9 dg]) .skip)) (q [ld da 4 p5,ld dj 4 p2,c dq 15 [Ax,uY],m dA dq,gm dt p7 dA true,gm cJ p8 dA true,G dB (.arith .eql 3 t46 tJ) dA true,y dH dA dB,m dX dH,gm dM p6 dX true,gm dk p9 dX true,G cR (.call (C (.func 16 [] [])) [t51,yz]) dX true,y dY dX cR,m dZ dY,G dR (.call (C (.func 10 [] [])) []) dZ true,y eM dZ dR,m p4 eM] .ret))))))))
def Zk:aG:=.code 58 [.tmp p4] Zj
structure Tb(ac:Nat->aG):Prop where
 Zl:ac 3=Zk
 aaY:ac 9=aon.1
 aaZ:ac 11=amz.1
 aoY:ac 12=anL.1
 aa0:ac 13=am1.1
 Zm:ac 14=Y4.1
 Zn:ac 15=Y5.1
 Zo:ac 16=YK.1
 aoZ:ac 17=amQ.1
 aa1:ac 18=anq.1
 aa2:ac 21=anZ.1
 aa3:ac 22=amW.1
 aa4:ac 23=aod.1
 ao0:ac 27=anA.1
 aa6:ac 28=anN.1
 aa7:ac 29=am9.1
 aa8:ac 33=Y3.1
 aa9:ac 34=amD.1
 aba:ac 35=amk.1
 ao1:ac 36=anm.1
 abb:ac 37=YO.1
 abc:ac 39=aoj.1
 abd:ac 40=YX.1
 abe:ac 41=YB.1
 abf:ac 42=YH.1
 Zp:ac 43=Y0.1
 Zr:ac 44=YD.1
 abg:ac 45=am4.1
 Zs:ac 46=X5.1
 Zt:ac 47=X7.1
 ao2:ac 48=amq.1
 ao3:ac 49=amU.1
 abh:ac 50=amI.1
 abi:ac 51=amY.1
 abj:ac 52=aoa.1
 abk:ac 53=an4.1
 abl:ac 55=anz.1
 abm:ac 56=amB.1
 abn:ac 57=YQ.1
 abo:ac 59=aof.1
 abp:ac 60=an8.1
 abq:ac 61=amS.1
 IT:ac 68=anV.1
 abr:ac 73=amj.1
 abs:ac 74=amR.1
 abt:ac 75=ank.1
 ao4:ac 76=amt.1
 abu:ac 77=YZ.1
 abv:ac 78=anF.1
 abw:ac 79=ani.1
 abx:ac 80=anE.1
 aby:ac 82=anG.1
 abz:ac 83=anh.1
 abA:ac 84=YJ.1
 abB:ac 85=YI.1
 Zu:ac 86=YY.1
 Zv:ac 87=YV.1
 abC:ac 88=aom.1
 abD:ac 89=anC.1
 abE:ac 91=aoi.1
 abF:ac 92=anR.1
 abG:ac 93=anr.1
 IU:ac 96=ams.1
 abH:ac 113=an7.1
 abI:ac 114=amu.1
 abJ:ac 115=amr.1
 abK:ac 116=amG.1
 abL:ac 117=Yz.1
 abM:ac 118=anY.1
 abN:ac 119=amo.1
 abO:ac 120=anS.1
 abP:ac 121=an1.1
 abQ:ac 122=amp.1
 abR:ac 124=anI.1
 abS:ac 125=aob.1
 abT:ac 126=am2.1
 abU:ac 127=amx.1
 abV:ac 128=aok.1
 abW:ac 129=aog.1
 Zw:ac 130=YA.1
 abX:ac 131=am3.1
 abY:ac 132=anM.1
 abZ:ac 133=amO.1
 ab0:ac 134=amd.1
 ab1:ac 140=amw.1
 Ox:ac 141=am5.1
 ab2:ac 142=anv.1
 ab3:ac 143=aoc.1
 ab4:ac 144=amb.1
 ab5:ac 145=ane.1
 ab6:ac 146=anw.1
 ab7:ac 147=amX.1
 ab8:ac 149=aoo.1
 ab9:ac 151=am8.1
 aca:ac 171=amC.1
 acb:ac 172=anO.1
 acd:ac 173=Y2.1
 ace:ac 174=YW.1
 acf:ac 175=anT.1
 acg:ac 176=an5.1
 ach:ac 177=amJ.1
 aci:ac 178=amv.1
 acj:ac 179=aml.1
 ack:ac 180=anj.1
 acl:ac 181=anH.1
 acm:ac 182=anQ.1
 acn:ac 191=amV.1
 aco:ac 192=ans.1
 Oy:ac 193=ano.1
 acp:ac 194=X6.1
 acq:ac 195=anX.1
 acr:ac 196=anf.1
 acs:ac 197=amH.1
 act:ac 198=amh.1
 acu:ac 199=ama.1
 acv:ac 200=aoe.1
 acw:ac 201=YU.1
 acx:ac 202=anJ.1
 acy:ac 203=YC.1
 acz:ac 204=ant.1
 acA:ac 205=YG.1
 acB:ac 206=ami.1
 acC:ac 207=amA.1
 acD:ac 208=anK.1
 acE:ac 209=anp.1
 acF:ac 210=amf.1
 acG:ac 211=amc.1
 acH:ac 214=an3.1
 acI:ac 215=amN.1
 Oz:ac 216=amL.1
 acJ:ac 217=ann.1
 acK:ac 218=ame.1
 acL:ac 219=anb.1
 acM:ac 220=an0.1
 acN:ac 221=am6.1
 acO:ac 222=amF.1
 acP:ac 223=YE.1
 acQ:ac 224=anW.1
 acR:ac 225=anl.1
 acS:ac 226=anD.1
 acT:ac 227=ana.1
 acU:ac 228=an6.1
 acV:ac 229=anx.1
 acW:ac 230=anU.1
 acX:ac 231=anB.1
 acY:ac 232=am7.1
 acZ:ac 233=an2.1
 ac0:ac 234=amK.1
 ac1:ac 235=ang.1
 ac2:ac 236=YM.1
 ac3:ac 237=am0.1
 ac4:ac 238=amZ.1
 ac5:ac 239=aoh.1
 ac6:ac 240=amn.1
 ac7:ac 241=amT.1
 ac8:ac 242=amE.1
 ac9:ac 243=amP.1
 ada:ac 244=aol.1
 adb:ac 245=anP.1
 adc:ac 247=anu.1
 ade:ac 248=amg.1
 adf:ac 249=amM.1
 adg:ac 254=amy.1
 adh:ac 263=an9.1
 IV:ac 38=.ix xP
 adi:ac 148=.ix xQ
 aj0:ac 1001=.ez uQ
 adj:ac 1002=.ez xN
 adk:ac 1003=.ez xM
 adl:ac 1004=.ez (BY 178)
 adm:ac 1005=.ez (BZ 178)
end Go.am.R
namespace Go.am.R
section
variable{ac:Nat->aG}{b σ:Type}
def vn(agg:Bool)(cs:List AV):AV:=if agg then .agg cs else cs.headD .alR
def Cs(size:Nat)(agg:Bool)(x:aJ):bW:=if agg then .gw size x else .aW x
theorem RO.OA{c:Cx}{l:List be}{s:List SI}{L:Kn}{H:ai}{d:Option ab}{size o:Nat}{agg:Bool}{cs:List AV}{q:ab}{x:aJ}(hc:cs.length=size)(h1:agg=false->size=1)(hat:∀t v,cs[t]?=some v->bh H q (o+t)=some v)(hrd:fE H q o size=some cs)(h:RO ac c l s (bC L d (vn agg cs)) H)(hx:bf L x=.az q o:=by exact cw):RO ac c (⟨d,Cs size agg x,none,[],[]⟩::l) s L H:=by
 cases agg with
 |true=>exact RO.gw h (hx:=hx) (hc:=hrd)
 |false=>
  have:=h1 rfl;subst this;obtain⟨v,rfl⟩:∃v,cs=[v]:=by match cs,hc with|[v],_=>exact⟨v,rfl⟩
  exact RO.aW h (hx:=hx) (hc:=hat 0 v rfl)
def ri(ac:Nat->aG)(A:ai)(fv:AV)(R:ai->b->List AV->Prop)(agg:Bool)(T:σ->List Th)(I:σ->Prop)(st:σ->b->Bool×σ)(la:List b):Prop:=
 ∀s a cs H us,a∈la->I s->R A a cs->aj A H (T s++us)->YF ac fv [vn agg cs] H λv c=>v=.bool (st s a).1/\I (st s a).2/\∃d,aj A c (T (st s a).2++d++us)
def ou(st:σ->b->Bool×σ):σ->List b->Nat->Option Nat×σ
 |s,[],_=>(none,s)
 |s,a::l,k=>if(st s a).1 then(some k,(st s a).2)else ou st (st s a).2 l (k+1)
def gW(st:σ->b->Bool×σ):σ->List b->Bool×σ
 |s,[]=>(true,s)
 |s,a::l=>if(st s a).1 then gW st (st s a).2 l else(false,(st s a).2)
theorem OB(st:σ->b->Bool×σ):∀(l:List b)(s:σ)(k:Nat),((ou (λs a=>(!(st s a).1,(st s a).2)) s l k).1.isSome=!(gW st s l).1)/\(ou (λs a=>(!(st s a).1,(st s a).2)) s l k).2=(gW st s l).2
 |[],s,k=>by simp[ou,gW]
 |a::l,s,k=>by
  simp only[ou,gW];cases h:(st s a).1;·simp
  simpa using OB st l (st s a).2 (k+1)
def OC:Option Nat->AV
 |some k=>aN k
 |none=>.int 3 (.negSucc 0)
theorem adn(o:Option Nat):∃z,OC o=aI z/\decide (0<=z)=o.isSome:=by cases o with|none=>exact⟨-1,rfl,rfl⟩|some k=>exact⟨.ofNat k,rfl,aB⟩
def IW(ld:bW)(size:Nat):bt:=(.seq (.region [O p4 (.bg (I 3 0))]) (.seq (.seq (.region [O p6 (.bg (T p0)),O p7 (.j7 (T p6)),O p8 (.bg (I 3 0))]) (.block 0 (.loop (.seq (.region [O p9 (.arith .lss 3 (T p8) (T p7))]) (.seq (.cond (T p9) .skip (.exit 0)) (.seq (.block 1 (.seq (.region [O aO (.bg (T p8)),O p5 (.bg (T aO))]) (.seq (.region [O aR (.bg (T p1)),O aY (.bg (T p0)),O aX (.bg (T p5)),O bi (.dG size (T aY) (T aX)),O bk ld,O bo (.call (T aR) [(T bk)])]) (.cond (T bo) (.seq (.region [O aZ (.bg (T p5)),O p4 (.bg (T aZ))]) .ret) .skip)))) (.region [O br (.arith .add 3 (T p8) (I 3 1)),O p8 (.bg (T br))]))))))) (.seq (.region [O p4 (.bg (J 3 0))]) .ret)))
theorem ado{f q size:Nat}{agg:Bool}(w:ac f=.code q [.tmp p4] (IW (Cs size agg (am.T bi)) size))(C:2<=q)(h1:agg=false->size=1){A H:ai}{fv sv:AV}{R:ai->b->List AV->Prop}{T:σ->List Th}{I:σ->Prop}{st:σ->b->Bool×σ}{la:List b}{s:σ}{us:List Th}(D:fv.bB=true)(p:ri ac A fv R agg T I st la)(x:∀a cs,R A a cs->(vn agg cs).bB=true)(hs:dV size R A la sv)(hl:la.length<=1000000)(n:I s)(U:aj A H (T s++us)){K:KT}(r:∀g d,I (ou st s la 0).2->aj A g (T (ou st s la 0).2++d++us)->K (OC (ou st s la 0).1) g):YN ac f [sv,fv] H K:=by
 have⟨hd,_,_,F⟩:=hs.all;refine YF.code w (by simp;omega) ?_;refine au ?_;refine Ru.nm λS M y t=>?_;refine Ru.cC t (up (P:=λk=>∀h i,ou st i (la.drop k) k=ou st s la 0->I i->(∃d,aj A h (T i++d++us))->Ru ac _ S ([(p8,aN k)]++pk M [p0,p1,p7]) h) la.length (λk G z h i c n U=>?_) 0 af _ s rfl n ⟨[],by simpa using U⟩);subst y;subst t;refine Ru.loop ?_;refine au ?_;refine Ru.cond (λe=>?_) (λe=>?_)
 .rw[aj9 e]at c;simp only[ou]at c;obtain⟨d,U⟩:=U;refine au ?_;refine RO.cZ U.gr hs λJ o1 cs hj u B hat hrd=>?_;have E:=x _ _ u;refine RO.OA B h1 hat hrd ?_;refine RO.cl ((p i la[k] cs h (d++us) (agB e) n u (by simpa using U)).mono ?_);rintro v g⟨rfl,j,l,m⟩;refine au ?_;refine Ru.kN (λo=>?_) (λo=>?_);·rw[o]at c;simp only[bq]at c;refine au ?_;refine Ru.aV ?_;have:=r g (l++d) (by rw[<-c];exact j) (by rw[<-c];simpa using m);rw[<-c]at this;exact this
  rw[o]at c;simp only[aes,bP]at c;refine au ?_;exact Ru.wk (z (k+1) af af g _ c j ⟨l++d,by simpa using m⟩)
 rw[List.drop_of_length_le af]at c;simp only[ou]at c;obtain⟨d,U⟩:=U;refine Ru.exitTo ?_;refine au ?_;refine Ru.aV ?_;have:=r h d (by rw[<-c];exact n) (by rw[<-c];exact U);rw[<-c]at this;exact this
def OD(g:Nat):bt:=(.seq (.region [O p4 (.bg (C (.bool false)))]) (.seq (.region [O p5 (.bg (T p0)),O p6 (.bg (T p1)),O p7 (.call (C (.func g [] [])) [(T p5),(T p6)]),O p8 (.arith .geq 3 (T p7) (I 3 0)),O p4 (.bg (T p8))]) .ret))
def adp(e cl a:Nat):bt:=(.seq (.region [O p3 (.box e (T p1)),O p4 (.bg (C (.bool false)))]) (.seq (.region [O p5 (.bg (T p0)),O p6 (.iP cl [] [(T p3)]),O p7 (.call (C (.func a [] [])) [(T p5),(T p6)]),O p8 (.unary .not (T p7)),O p4 (.bg (T p8))]) .ret))
def adq:bt:=(.seq (.region [O p3 (.bg (C (.bool false)))]) (.seq (.region [O p4 (.aW (T p1)),O p5 (.bg (T p0)),O p6 (.call (T p4) [(T p5)]),O p7 (.unary .not (T p6)),O p3 (.bg (T p7))]) .ret))
def adr(t n:Nat):bt:=(.seq (.region [O p2 (.box t (T p0)),O p3 (.bg (C (.bool false)))]) (.seq (.region [O p4 (.aW (T p1)),O p5 (.gw n (T p2)),O p6 (.call (T p4) [(T p5)]),O p7 (.unary .not (T p6)),O p3 (.bg (T p7))]) .ret))
section
variable{A H:ai}{fv sv:AV}{R:ai->b->List AV->Prop}{T:σ->List Th}{I:σ->Prop}{st:σ->b->Bool×σ}{la:List b}{s:σ}{us:List Th}
theorem ads{f g l mt size:Nat}{agg:Bool}(m:ac f=.code mt [.tmp p4] (OD g))(q:2<=mt)(hg:ac g=.code l [.tmp p4] (IW (Cs size agg (am.T bi)) size))(e:2<=l)(h1:agg=false->size=1)(h:fv.bB=true)(i:ri ac A fv R agg T I st la)(n:∀a cs,R A a cs->(vn agg cs).bB=true)(hs:dV size R A la sv)(hl:la.length<=1000000)(o:I s)(U:aj A H (T s++us)){K:KT}(p:∀c d,I (ou st s la 0).2->aj A c (T (ou st s la 0).2++d++us)->K (.bool (ou st s la 0).1.isSome) c):YN ac f [sv,fv] H K:=by have⟨hd,_,_,r⟩:=hs.all;refine YF.code m (by simp;omega) ?_;refine au ?_;refine RO.cl (ado hg e h1 h i n hs hl o U λc d j k=>?_);obtain⟨z,e1,e2⟩:=adn (ou st s la 0).1;rw[e1];refine RO.geq (b:=0) ?_;rw[e2];refine au ?_;exact Ru.aV (p c d j k)
theorem Ct{f g h r mt t size e cl:Nat}{agg:Bool}(u:ac f=.code t [.tmp p4] (adp e cl g))(z:2<=t)(hg:ac g=.code mt [.tmp p4] (OD h))(m:2<=mt)(v:ac h=.code r [.tmp p4] (IW (Cs size agg (am.T bi)) size))(n:2<=r)(h1:agg=false->size=1)(B:fv.bB=true)(o:fv.ee=true)(c:fv.cells=[fv])(p:∀q,ri ac A (.func cl [] [.az q 0]) R agg (λs=>tB e q [fv]::T s) I (λs a=>(!(st s a).1,(st s a).2)) la)(w:∀a cs,R A a cs->(vn agg cs).bB=true)(hs:dV size R A la sv)(hl:la.length<=1000000)(x:I s)(U:aj A H (T s++us)){K:KT}(y:∀k l,I (gW st s la).2->aj A k (T (gW st s la).2++l++us)->K (.bool (gW st s la).1) k):YN ac f [sv,fv] H K:=by have⟨hd,_,_,C⟩:=hs.all;obtain⟨e1,e2⟩:=OB st la s 0;refine YF.code u (by simp;omega) ?_;refine au ?_;refine RO.dL U (λH1 q d=>?_) (ho:=by rw[c];exact ao o rfl);rw[c]at d;refine au ?_;refine RO.cl (ads hg m v n h1 rfl (p q) w hs hl x d λk l i j=>?_);rw[e1];refine au ?_;rw[e2]at i j;refine Ru.aV ?_;rw[Bool.not_not];exact y k l i j.tail
theorem IX{cl h e:Nat}(j:ac cl=.code h [.tmp p3] adq)(n:2<=h)(o:fv.bB=true)(k:∀a cs,R A a cs->(vn false cs).bB=true)(c:ri ac A fv R false T I st la)(q:ab):ri ac A (.func cl [] [.az q 0]) R false (λs=>tB e q [fv]::T s) I (λs a=>(!(st s a).1,(st s a).2)) la:=by intro s a cs H us l m i U;have p:=k a cs i;refine YF.code j (by simp;omega) ?_;refine bD ?_;refine RO.cl ((c s a cs H (tB e q [fv]::us) l m i U.Ej).mono ?_);rintro v r⟨rfl,d,f,g⟩;refine bD ?_;exact Ru.aV ⟨rfl,d,f,by have:=g.wy;simpa using this⟩
theorem OE{cl j e t n:Nat}(m:ac cl=.code j [.tmp p3] (adr t n))(r:2<=j)(u:fv.bB=true)(o:∀a cs,R A a cs->cs.length=n/\dS cs=true)(f:ri ac A fv R true T I st la)(q:ab):ri ac A (.func cl [] [.az q 0]) R true (λs=>tB e q [fv]::T s) I (λs a=>(!(st s a).1,(st s a).2)) la:=by intro s a cs H us hm p k U;obtain⟨c,l⟩:=o a cs k;refine YF.code m (by simp;omega) ?_;refine au ?_;refine RO.dL U (λH1 d U=>?_) (v:=.agg cs);refine au ?_;refine RO.gU U 1 ?_;refine RO.eQ U 0 (m:=n) ?_ (hm:=by show 0+n<=cs.length;omega);rw[show((AV.agg cs).cells.drop 0).take n=cs by show(cs.drop 0).take n=cs;rw[List.drop_zero,<-c,ak7]];refine RO.cl ((f s a cs H1 (tB t d cs::tB e q [fv]::us) hm p k (aj.gF (xs:=[tB t d cs,tB e q [fv]]) U)).mono ?_);rintro v w⟨rfl,g,h,i⟩;refine bD ?_;exact Ru.aV ⟨rfl,g,h,by have:=(aj.kO (xs:=[tB t d cs,tB e q [fv]]) i).tail;simpa using this⟩
end
end
end Go.am.R
namespace Go.am
section
def tX(q:ab)(o:cq):Th where
 P H a:=q∈a/\(∀j∈a,j=q)/\H.get q=o/\q.an<H.next.an
 fr h b hg:=⟨h.1,h.2.1,by rw[hg _ h.1];exact h.2.2.1,ako h.2.2.2 b⟩
 lt h:=by intro j hj;rw[h.2.1 j hj];exact h.2.2.2
variable{A H H':ai}{ts us:List Th}{q:ab}{o o':cq}
variable{ac:Nat->aG}{c:Cx}{s:List SI}{L:Kn}{d:Option ab}{l:List be}
theorem aj.AQ(U:aj A H ts)(o:cq):aj A (H.new o) (tX H.next o::ts):=U.push (fp:=[H.next]) (bm.new H o) ⟨aep.2 rfl,λj hj=>aep.1 hj,by rw[ai.dJ,aK rfl],by rw[ai.nK];omega⟩ (uU H)
theorem aj.tV(U:aj A H ts)(i:Nat)(hi:ts[i]?=some (tX q o))(o':cq):aj A (H.set q o') (ts.set i (tX q o')):=by
 obtain⟨b,a,_,hu⟩:=U.ki i hi;refine hu (fp':=[q]) ⟨Nat.le_of_eq (by rw[ai.gD]),λj hj=>?_,λj hj c=>?_⟩ ⟨aep.2 rfl,λj hj=>aep.1 hj,by rw[ai.aF,aK rfl],by rw[ai.gD];exact a.2.2.2⟩;·rw[aep]at hj;subst hj;exact .inl a.1
 rw[ai.aF,aq λe:j=q=>hj (by rw[e];exact a.1)]
theorem aj.rj(U:aj A H ts)(i:Nat)(hi:ts[i]?=some (tX q o)):H.get q=o:=by obtain⟨b,a⟩:=U.get i hi;exact a.2.2.1
theorem RO.rF(U:aj A H ts){x:aJ}{t:List Nat}(h:∀H' q,aj A H' (tX q (.pf t t 0)::ts)->RO ac c l s (bC L d (.az q 0)) H')(b:bf L x=.str t:=by exact cw):RO ac c (⟨d,.rF x,none,[],[]⟩::l) s L H:=RO.op (λaa a=>by simp only[aE,a.gv b rfl]) (h _ _ (U.AQ _))
theorem RO.adt(U:aj A H ts)(i:Nat){x:aJ}{t:List Nat}{k:Nat}(h:RO ac c l s (bC L d (.tuple [.bool false])) H)(hi:ts[i]?=some (tX q (.pf t [] k)):=by rfl)(b:bf L x=.az q 0:=by exact cw):RO ac c (⟨d,.vJ x,none,[],[]⟩::l) s L H:=RO.op (λaa a=>by simp only[aE,a.gv b rfl,U.rj i hi]) h
theorem RO.adu(U:aj A H ts)(i:Nat){x:aJ}{t r:List Nat}{k b:Nat}(hb:b<128)(h:∀H',aj A H' (ts.set i (tX q (.pf t r (k+1))))->RO ac c l s (bC L d (.tuple [.bool true,.int 3 (.ofNat k),.int 2 (.ofNat b)])) H')(hi:ts[i]?=some (tX q (.pf t (b::r) k)):=by rfl)(e:bf L x=.az q 0:=by exact cw):RO ac c (⟨d,.vJ x,none,[],[]⟩::l) s L H:=RO.op (λaa a=>by simp only[aE,a.gv e rfl,U.rj i hi,show akv b 128=true from alN akY hb,bq]) (h _ (U.tV i hi _))
theorem RO.Zx(U:aj A H ts)(i:Nat){x:aJ}{t r:List Nat}{k b:Nat}(hb:¬b<128)(h:∀H',aj A H' (ts.set i (tX q (.pf t (t.drop (k+(u8 t k).2)) (k+(u8 t k).2))))->RO ac c l s (bC L d (.tuple [.bool true,.int 3 (.ofNat k),.int 2 (.ofNat (u8 t k).1)])) H')(hi:ts[i]?=some (tX q (.pf t (b::r) k)):=by rfl)(f:bf L x=.az q 0:=by exact cw):RO ac c (⟨d,.vJ x,none,[],[]⟩::l) s L H:=RO.op (λaa a=>by simp only[aE,a.gv f rfl,U.rj i hi,show akv b 128=false from Bool.eq_false_iff.2 λe=>hb (Eq.mp akY e),aes,bP]) (h _ (U.tV i hi _))
theorem Zy{t:List Nat}{k:Nat}(hb:∀x∈t,x<256)(a:k<t.length)(h:128<=t[k]):128<=(u8 t k).1/\(u8 t k).1<=2147483647:=by
 unfold u8;have hs:k<(ByteArray.mk (t.map UInt8.ofNat).toArray).size:=by simpa[ByteArray.size]using a
 refine⟨(decode_high _ _ hs ?_).1,decode_le _ _⟩;have:((ByteArray.mk (t.map UInt8.ofNat).toArray)[k]'hs).toNat=t[k]:=by show(((t.map UInt8.ofNat).toArray)[k]'(by simpa using a)).toNat=t[k];have:=hb _ (agB a);simp;omega
 rw[this];exact h
theorem RO.adv(U:aj A H ts)(h:∀H' q,aj A H' (tX q (.map [] 0)::ts)->RO ac c l s (bC L d (.map q)) H'):RO ac c (⟨d,.jK,none,[],[]⟩::l) s L H:=RO.jK (h _ _ (U.AQ _))
theorem RO.adw(U:aj A H ts)(i:Nat){e:eE}{m k w:aJ}{kv v:AV}{es:List aT}{ck:Nat}(h:∀H',aj A H' (ts.set i (tX q (.map (es++[⟨kv,v,ck⟩]) (ck+1))))->RO ac c l s (bC L d .alR) H')(hi:ts[i]?=some (tX q (.map es ck)):=by rfl)(g:bf L m=.map q:=by exact cw)(j:bf L k=kv:=by exact cw)(n:bf L w=v:=by exact cw)(b:kv.bB=true:=by first|rfl|assumption)(f:v.bB=true:=by first|rfl|assumption)(o:jA e kv=true:=by rfl)(p:findKey e kv es 0=some none:=by rfl):RO ac c (⟨d,.jy e m k w,none,[],[]⟩::l) s L H:=RO.op (λaa a=>by simp only[aE,a.gv g rfl,a.gv j b,a.gv n f,o,aku,aes,bP,U.rj i hi,p]) (h _ (U.tV i hi _))
theorem RO.adx(U:aj A H ts)(i:Nat){e:eE}{z:AV}{m k:aJ}{kv:AV}{es:List aT}{ck:Nat}{r:Option (Nat×AV)}(f:findKey e kv es 0=some r)(h:RO ac c l s (bC L d (.tuple (match r with|some p=>[p.2,.bool true]|none=>[z,.bool false]))) H)(hi:ts[i]?=some (tX q (.map es ck)):=by rfl)(g:bf L m=.map q:=by exact cw)(j:bf L k=kv:=by exact cw)(b:kv.bB=true:=by first|rfl|assumption)(n:jA e kv=true:=by rfl):RO ac c (⟨d,.lookup e z true m k,none,[],[]⟩::l) s L H:=RO.op (λaa a=>by simp only[aE,a.gv g rfl,a.gv j b,n,aku,aes,bP,U.rj i hi,f,bq];cases r<;>rfl) h
theorem il{aa:ap AV}{p:ab}{x:aJ}{i:ab}{o:Nat}{v:AV}{re:List jo}(b:Le L aa)(d:bf L x=.az i o)(f:lk L p=v)(hd:v.bB=true)(hs:iy v v=true)(a:bh H i o=some v)(g:fG aa H re=true):fG aa H (⟨p,.aW x,none⟩::re)=true:=by
 have e:jp H (.az i o) 1 false=some v:=by
  unfold bh at a;split at a
  .rename_i cc n _ _ _ _ hg;split at a;·rename_i hb;injection a with a;have c:o<n:=akY.mp hb;simp only[jp,fE,hg,iI,aK c,a,aes,bP];rfl
   cases a
  cases a
 simp only[fG,fF,bq,aE,b.gv d rfl,e,akt,b.get f hd,hs,g,alK]
theorem RO.EN{f:aJ}{args:List aJ}{fv:AV}{a:List AV}{p:ab}{x:aJ}{i:ab}{o:Nat}{v:AV}(h:YF ac fv a H λr H'=>bh H' i o=some v/\RO ac c l s (bC L d r) H')(k:∀r,bf (bC L d r) x=.az i o:=by(intro r;conv=>lhs;whnf)<;>rfl)(m:∀r,lk (bC L d r) p=v:=by(intro r;conv=>lhs;whnf)<;>rfl)(b:v.bB=true:=by first|rfl|assumption)(hvs:iy v v=true:=by first|rfl|assumption|simp[iy,gz,fQ])(n:bf L f=fv:=by exact cw)(e:fv.bB=true:=by first|rfl|assumption)(q:args.map (bf L)=a:=by rfl)(g:a.all AV.bB=true:=by repeat first|rfl|assumption|(refine ad ?_ ?_)):RO ac c (⟨d,.call f args,none,[],[⟨p,.aW x,none⟩]⟩::l) s L H:=RO.HT (h.mono λr H' h=>⟨λaa j=>il j (k r) (m r) b hvs h.1 rfl,h.2⟩) n e q g
def tW(L:Kn)(H:ai):List iW->List AV->Prop
 |[],[]=>True
 |.tmp p::a,v::b=>lk L p=v/\v.bB=true/\tW L H a b
 |.cell p agg n::a,v::b=>(∃q o,lk L p=.az q o/\jp H (.az q o) n agg=some v)/\tW L H a b
 |_,_=>False
theorem tW.yf{aa:ap AV}(a:Le L aa):∀{b:List iW}{c:List AV},tW L H b c->gZ aa H b=some c|[],[],_=>rfl|.tmp p::b,v::c,h=>by simp only[gZ,tW.yf a h.2.2,akt,a.get h.1 h.2.1]|.cell p agg n::b,v::c,h=>by obtain⟨⟨q,o,h1,h2⟩,h3⟩:=h;simp only[gZ,tW.yf a h3,a.get h1 rfl,h2]|[],_::_,h=>h.elim|.tmp _::_,[],h=>h.elim|.cell .. ::_,[],h=>h.elim
theorem RJ.ady{j:cP}{b:List iW}{K:KT}{c:List AV}(hj:j=.none\/j=.ret)(d:tW L H b c)(h:K (iL c) H):RJ ac (wt b K) j [] L H:=λaa a=>by have:=d.yf (H:=H) a;rcases hj with rfl|rfl<;>simp only[kh,pu,jN,this]<;>exact h
theorem Ru.lM{a:List iW}{K:KT}{vs:List AV}{s:List SI}(b:tW L H a vs)(h:K (iL vs) H):Ru ac (wt a K) (.code .ret::s) L H:=Ru.ret (RJ.wp (RJ.ady (.inr rfl) b h))
theorem aj.agg(U:aj A H ts)(i:Nat){e n:Nat}{a:List AV}(hi:ts[i]?=some (tB e q a):=by rfl)(b:a.length=n:=by rfl):jp H (.az q 0) n true=some (.agg a):=by subst b;obtain⟨d,c⟩:=U.get i hi;have:=tB.qQ (o:=0) (m:=a.length) c af;simp only[jp,this,bq,List.drop_zero,ak7]
theorem aj.one(U:aj A H ts)(i:Nat){e:Nat}{v:AV}(hi:ts[i]?=some (tB e q [v]):=by rfl):jp H (.az q 0) 1 false=some v:=by obtain⟨b,a⟩:=U.get i hi;have:=tB.qQ (o:=0) (m:=1) a aB;simp only[jp,this,aes,bP];rfl
end
section
variable{ac:Nat->aG}{c:Cx}{s:List SI}{L:Kn}{H A:ai}{d:Option ab}{l:List be}{ts:List Th}{q:ab}{e n:Nat}
end
section
variable{ac:Nat->aG}
section
def Body(ac:Nat->aG)(A:ai)(y:AV)(m:Nat)(E:Nat->List AV->List Th->Prop)(J:Nat->List Th->Prop)(D:List Th->Prop):Prop:=
 ∀k args b c us H,k<m->E k args b->J k c->aj A H (b++c++us)->YF ac y args H λv d=>∃a,aj A d (a++us)/\(v=.bool true/\J (k+1) a\/v=.bool false/\D a)
def yI(ac:Nat->aG)(A:ai)(fv:AV)(m:Nat)(E:Nat->List AV->List Th->Prop)(d:List Th)(e Kp:ai->Prop):Prop:=
 ∀y J D b us H(K:KT),y.bB=true->y.ee=true->y.cells=[y]->(∀k b us H,J k b->aj A H (b++us)->Kp H)->Body ac A y m E J D->J 0 b->aj A H (d++b++us)->e H->(∀c a v,aj A c (a++us)->(J m a\/D a)->K v c)->YF ac fv [y] H K
def AT:List ab->List AV->Kn->Kn
 |p::a,v::b,L=>AT a b ((p,v)::L)
 |_,_,L=>L
theorem Le.pr:∀{a:List ab}{b:List AV}{L:Kn}{aa:ap AV},Le L aa->Le (AT a b L) (ph a b aa)|[],_,_,_,h=>by trivial|p::a,[],_,_,h=>by trivial|p::a,v::b,L,aa,h=>by simp only[AT,ph];exact Le.pr (h.set (some p) v)
def yJ(A:ai)(l:ab)(o2:cq)(us:List Th)(J:List Th->Prop)(Dn:cP->List Th->Prop)(j:cP)(_:Fr)(b:ai):Prop:=
 ∃a,aj A b (a++tX l o2::us)/\match j with
  |.none=>J a
  |j=>Dn j a
def OJ(ac:Nat->aG)(l:ab)(o1 o2:cq)(body:bt)(K:cP->Fr->ai->Prop)(j:cP)(fr:Fr)(H1:ai):Prop:=
 j=.none/\H1.get l=o1/\∃n,Xc ac n body fr (H1.set l o2) K
abbrev CE(A:ai)(l:ab)(o2:cq)(us:List Th)(J:List Th->Prop)(Dn:cP->List Th->Prop):Cx:=⟨yJ A l o2 us J Dn,[],some l⟩
abbrev EV(ac:Nat->aG)(l:ab)(o1 o2:cq)(body:bt)(K:cP->Fr->ai->Prop):Cx:=⟨OJ ac l o1 o2 body K,[],some l⟩
variable{A H:ai}{l:ab}{o1 o2:cq}{us xs:List Th}{J:List Th->Prop}{Dn:cP->List Th->Prop}{L:Kn}{body:bt}
theorem Ru.dN(U:aj A H (xs++tX l o1::us))(h:∀b,aj A b (xs++tX l o2::us)->Ru ac (CE A l o2 us J Dn) [.code body] L b):Ru ac (EV ac l o1 o2 body (yJ A l o2 us J Dn)) [] L H:=λaa a=>by have hi:(xs++tX l o1::us)[xs.length]?=some (tX l o1):=aB;have h2:=U.tV xs.length hi o2;have e:(xs++tX l o1::us).set xs.length (tX l o2)=xs++tX l o2::us:=aB;rw[e]at h2;obtain⟨n,c⟩:=h _ h2 aa a;exact⟨rfl,U.rj xs.length hi,n,c.mono (afb _) λ_ _ _ h=>h⟩
theorem Ru.bG{ts:List Th}(U:aj A H (ts++tX l o2::us))(a:J ts):Ru ac (CE A l o2 us J Dn) [] L H:=λ_ _=>⟨ts,U,a⟩
theorem RJ.bG{ts:List Th}{j:cP}(U:aj A H (ts++tX l o2::us))(hj:j≠.none)(a:Dn j ts):RJ ac (CE A l o2 us J Dn) j [] L H:=λ_ _=>⟨ts,U,by grind⟩
theorem Ru.OL{ts:List Th}{s:List SI}(U:aj A H (ts++tX l o2::us))(a:Dn .ret ts):Ru ac (CE A l o2 us J Dn) (.code .ret::s) L H:=Ru.ret (RJ.wp (RJ.bG U aB a))
theorem OM{a b:Th}{d c us:List Th}:(a::b::(d++c++us)).Perm (d++(a::c)++(b::us)):=by have h1:(d++(a::c)++(b::us)).Perm (b::(d++(a::c)++us)):=akj;have h2:(d++(a::c)++us).Perm (a::(d++c++us)):=(akj (l₁:=d)).append_right us;exact((h1.trans (h2.cons b)).trans (akS a b _)).symm
theorem I9{a:Th}{b c us:List Th}:(b++(a::c)++us).Perm (b++c++a::us):=by have h1:(b++c++a::us).Perm (a::(b++c++us)):=akj;have h2:(b++(a::c)++us).Perm (a::(b++c++us)):=(akj (l₁:=b)).append_right us;exact h2.trans h1.symm
theorem ON{aa:ap AV}{b:List ab}{dN body:bt}{c:ab}{args:List AV}{Q:KT}(e:H.get l=.loop .ready .none 0 aa b dN body c)(f:args.length=b.length)(g:kh ac (OJ ac l (.loop .ready .none 0 aa b dN body c) (.loop .busy .none 0 aa b dN body c) body (yJ A l (.loop .busy .none 0 aa b dN body c) us J Dn)) [.code dN] .none ⟨ph b args aa,[],some l⟩ H)(r:∀d a,aj A d (a++tX l (.loop .busy .none 0 aa b dN body c)::us)->J a->Q (.bool true) (d.set l (.loop .ready .none 0 aa b dN body c)))(hd:∀j d a,j≠.none->aj A d (a++tX l (.loop .busy .none 0 aa b dN body c)::us)->Dn j a->Q (.bool false) (d.set l (.loop .done j 0 aa b dN body c))):YF ac (.yield l) args H Q:=by obtain⟨i,n⟩:=g;obtain⟨m,p⟩:=(Ad ac i).exec (K:=λm j fr H1=>j=.none/\H1.get l=.loop .ready .none 0 aa b dN body c/\Xc ac m body fr (H1.set l (.loop .busy .none 0 aa b dN body c)) (yJ A l (.loop .busy .none 0 aa b dN body c) us J Dn)) (λm s j fr H o h=>⟨h.1,h.2.1,h.2.2.mono o λ_ _ _ h=>h⟩) ((mono ac i).exec (afb _) (λj fr H h=>by obtain⟨h1,h2,k,h3⟩:=h;grind) n);refine⟨max i m+1,?_⟩;simp only[Xf,io,e,aK f];refine(show Xc ac i dN _ H _ from p).mono (Nat.le_max_left ..) λj fr H1 h=>?_;obtain⟨rfl,h2,h3⟩:=h;simp only[h2];refine h3.mono (Nat.le_max_right ..) λj _ d h=>?_;obtain⟨a,q,t⟩:=h;have u:d.get l=.loop .busy .none 0 aa b dN body c:=q.rj a.length aB;grind
theorem Ru.pG{K:cP->Fr->ai->Prop}{M:List ab}{s:List SI}{f:aJ}{b:List ab}{dN body:bt}{fv:AV}{m:Nat}{E:Nat->List AV->List Th->Prop}{S q:List Th}{T Kp:ai->Prop}{J:Nat->List Th->Prop}{Dn:cP->List Th->Prop}(U:aj A H (S++q++us))(W:yI ac A fv m E S T Kp)(X:∀G,bm H G->T G)(Y:J 0 q)(Z:∀k args p,E k args p->args.length=b.length)(I:∀k c us H,J k c->aj A H (c++us)->Kp H)(hB:∀k args p c us l o1 o2 H,k<m->E k args p->J k c->aj A H (p++c++tX l o1::us)->Ru ac (EV ac l o1 o2 body (yJ A l o2 us (J (k+1)) Dn)) [.code dN] (AT b args L) H)(B:∀g a w,J m a->aj A g (a++tX w (.deferred false)::us)->Ru ac ⟨K,w::M,none⟩ s L g)(C:∀j g a w,j≠.none->Dn j a->aj A g (a++tX w (.deferred false)::us)->RJ ac ⟨K,w::M,none⟩ j s L g)(hf:bf L f=fv:=by exact cw)(N:fv.bB=true:=by first|rfl|assumption):Ru ac ⟨K,M,none⟩ (.code (.rangeFunc f b dN body)::s) L H:=by
 intro aa o;have O:=U.AQ (.deferred false);have r:=O.AQ (.loop .ready .none 0 aa b dN body H.next);have t:=r.cM OM;have x:bm H ((H.new (.deferred false)).new (.loop .ready .none 0 aa b dN body H.next)):=(bm.new H _).trans (bm.new _ _);generalize hl:(H.new (.deferred false)).next=l at r t;generalize P:((H.new (.deferred false)).new (.loop .ready .none 0 aa b dN body H.next))=G at r t x;have key:=W (.yield l) (λk a=>∃c,a=tX l (.loop .ready .none 0 aa b dN body H.next)::c/\J k c) (λa=>∃c j,j≠.none/\a=tX l (.loop .done j 0 aa b dN body H.next)::c/\Dn j c) _ _ G (λ_ g=>match g.get l with
  |.loop st cB fn D b aw bd d=>match st with|.busy=>False|_=>kh ac K s cB ⟨aa,H.next::M,none⟩ (g.set l (.loop .exhausted cB fn D b aw bd d))
  |_=>False) rfl rfl rfl (by rintro k _ h g⟨c,rfl,u⟩Q;exact I k c _ g u Q.Ej) ?_ ⟨q,rfl,Y⟩ t (X _ x) ?_;·obtain⟨n,hn⟩:=key;refine⟨n+1,?_⟩;simp only[Xc,exec];rw[hl,P,o.gv hf N];exact hn
 .rintro k args p _ h V hk y⟨c,rfl,u⟩i;have z:=i.cM I9;have e:V.get l=.loop .ready .none 0 aa b dN body H.next:=z.rj (p++c).length aB;have F:=hB k args p c h l _ (.loop .busy .none 0 aa b dN body H.next) V hk y u z (ph b args aa) o.pr;refine ON e (Z _ _ _ y) F (λg a h1 h2=>⟨tX l _::a,?_,.inl ⟨rfl,a,rfl,h2⟩⟩) (λj g a hj h1 h2=>⟨tX l _::a,?_,.inr ⟨rfl,a,j,hj,rfl,h2⟩⟩);·have:=h1.tV (q:=l) (o:=.loop .busy .none 0 aa b dN body H.next) a.length aB (.loop .ready .none 0 aa b dN body H.next);rw[show(a++tX l (.loop .busy .none 0 aa b dN body H.next)::h).set a.length (tX l (.loop .ready .none 0 aa b dN body H.next))=a++tX l (.loop .ready .none 0 aa b dN body H.next)::h by simp]at this;exact this.wy
  have:=h1.tV (q:=l) (o:=.loop .busy .none 0 aa b dN body H.next) a.length aB (.loop .done j 0 aa b dN body H.next);rw[show(a++tX l (.loop .busy .none 0 aa b dN body H.next)::h).set a.length (tX l (.loop .done j 0 aa b dN body H.next))=a++tX l (.loop .done j 0 aa b dN body H.next)::h by simp]at this;exact this.wy
 rintro g _ v i(⟨c,rfl,R⟩|⟨c,j,hj,rfl,hD⟩);·have e:=i.rj 0 rfl;simp only[e];exact B _ c _ R (i.tV 0 rfl _).tail aa o
 have e:=i.rj 0 rfl;simp only[e];exact C j _ c _ hj hD (i.tV 0 rfl _).tail aa o
end
section
def tR(size:Nat)(vs:List AV)(n:Nat)(v:AV):Th where
 P H b:=Sl H size vs n v/\(∀i o m c e,v=.slice i o m c e->i∈b)/\∀j∈b,j.an<H.next.an
 fr:=by
  rintro H H' b⟨h1,h2,h3⟩f hg
  refine⟨?_,h2,λj hj=>ako (h3 j hj) f⟩
  rcases h1 with h|⟨i,o,cap,ex,c,m,e,d,aM,fz,g,k,a⟩
  .exact .inl h
  .exact .inr ⟨i,o,cap,ex,c,m,e,d,aM,fz,g,by rw[hg i (h2 _ _ _ _ _ g)];exact k,a.1,a.2.1,a.2.2.1,ako a.2.2.2.1 f,a.2.2.2.2⟩
 lt h:=h.2.2
def tZ(F:List Th):Th where
 P H a:=(∀t∈F,∃f,(∀j∈f,j∈a)/\t.P H f)/\∀j∈a,j.an<H.next.an
 fr:=by
  rintro H H' a⟨h1,h2⟩b hg
  refine⟨λt d=>?_,λj hj=>ako (h2 j hj) b⟩
  obtain⟨f,c,e⟩:=h1 t d
  exact⟨f,c,t.fr e b λj hj=>hg j (c j hj)⟩
 lt h:=h.2
variable{A H H':ai}{ts us:List Th}{F:List Th}{t t':Th}{i j e size n o m:Nat}{vs ws:List AV}{v w:AV}{full:Bool}{q r:ab}
theorem aj.rl(U:aj A H ts):aj A H (tZ []::ts):=by have h0:(tZ []).P H []:=⟨λt h=>absurd h aB,λj h=>absurd h aB⟩;exact U.push (bm.refl H) h0 λj h=>absurd h aB
theorem aj.lq(U:aj A H (t::tZ F::ts)):aj A H (tZ (t::F)::ts):=by
 obtain⟨b,fs,c⟩:=U;match fs,c with
  |d::e::fs,⟨h1,h2,h3,a,g,k,i⟩=>
   refine⟨b,(d++e)::fs,⟨λu hu=>?_,λj hj=>?_⟩,λj hj=>?_,λj hj f l=>?_,i⟩
   .rcases aeV.1 hu with rfl|hu;·grind
    obtain⟨f,m,n⟩:=a.1 u hu;grind
   .rcases ahp.1 hj with h|h;·exact t.lt h1 j h
    exact a.2 j h
   .rcases ahp.1 hj with h|h;·exact h2 j h
    exact g j h
   grind
theorem aj.mf(U:aj A H ts)(i:Nat)(hi:ts[i]?=some (tZ F))(a:t∈F):∃f,t.P H f:=by obtain⟨c,b⟩:=U.get i hi;obtain⟨f,_,h⟩:=b.1 t a;grind
theorem aj.OO(U:aj A H (tZ F::ts))(b:t∈F)(h:∀f,t.P H f->t'.P H f):aj A H (tZ (t'::F)::ts):=by
 refine U.as 0 rfl λc a=>⟨λu hu=>?_,a.2⟩;rcases aeV.1 hu with rfl|hu;·obtain⟨f,d,e⟩:=a.1 t b;grind
 exact a.1 u hu
theorem tS.mg{a:List ab}(h:(tS e size vs n full v).P H a):(tR size vs n v).P H a:=by refine⟨dU.sl h,λi o m c ex d=>?_,dU.below h⟩;rcases h with⟨_,_,_,h⟩|⟨f,g,aM,cap,b,rfl,h2,_⟩;all_goals grind
theorem Fs.mC:∀{fs:List (List ab)}{ts:List Th}{i j:Nat},Fs A H fs ts->ts[i]?=some t->ts[j]?=some t'->i<j->∃f g,t.P H f/\t'.P H g/\∀p∈f,p∉g|[],[],i,_,_,h,_,_=>by grind|[],_::_,_,_,h,_,_,_=>h.elim|_::_,[],_,_,h,_,_,_=>h.elim|b::fs,t0::ts,0,j+1,⟨h1,_,h3,a⟩,hi,hj,_=>by grind[List.getElem?_cons_zero,adG,ak6,Fs.at,List.mem_of_getElem?]|b::fs,t0::ts,i+1,j+1,⟨_,_,_,a⟩,hi,hj,c=>by exact Fs.mC a hi hj af|_::_,_::_,_,0,_,_,_,h=>by omega
variable{c:Cx}{s:List SI}{L:Kn}{d:Option ab}{l:List be}
theorem RO.aec(U:aj A H ts)(i j:Nat){x:aJ}{p:ab}{C cap:Nat}{ex:Bool}(h:∀H',aj A H' ts->RO ac c l s (bC L d v) H')(G:bf L x=.az q o:=by exact cw)(D:lk L p=.slice r 0 C cap ex:=by exact cw)(hi:ts[i]?=some (tB e q vs):=by rfl)(hj:ts[j]?=some (tS m size ws n full (.slice r 0 C cap ex)):=by rfl)(u:i≠j:=by decide)(I:vs[o]?=some v:=by rfl):RO ac c (⟨d,.aW x,none,[p],[]⟩::l) s L H:=by
 have w:q≠r:=by
  obtain⟨_,fs,E⟩:=U;rcases Nat.lt_or_gt_of_ne u with a|a
  .obtain⟨f,g,h1,h2,h3⟩:=E.mC hi hj a;rintro rfl;refine h3 q h1.1 ?_;rcases h2 with⟨_,_,_,h⟩|⟨J,K,aM,cap,y,rfl,h2,_⟩;·cases h
   injection h2 with h2;subst h2;exact aeU ..
  obtain⟨f,g,h1,h2,h3⟩:=E.mC hj hi a;rintro rfl;refine h3 q ?_ h2.1;rcases h1 with⟨_,_,_,h⟩|⟨J,K,aM,cap,y,rfl,h2,_⟩;·cases h
  injection h2 with h2;subst h2;exact aeU ..
 obtain⟨M,z⟩:=U.get i hi;have t:=tB.cell z I;have B:aj A ((H.set r .none).set r (H.get r)) ts:=U.bX rfl λk=>by
  rw[ai.aF];split;·rename_i e;rw[e]
  rename_i e;rw[ai.aF,aq e]
 refine RO.Ei (λ_ _ h=>by grind) (λ_ h=>by grind) (λaa b=>⟨H.set r .none,?_,?_⟩) (λ_ _=>rfl) (h _ B)
 .simp only[eV,b.get D rfl,jq,aE,b.gv G rfl];have:bh (H.set r .none) q o=some v:=by simp only[bh,ai.aF,aq w];exact t
  unfold bh at this;split at this;all_goals simp_all[jp,fE,iI,aK,aes,bP]
 simp only[eV,b.get D rfl,jq,eB]
def i9(M:List ab):List Th:=M.map λm=>tX m (.deferred false)
theorem OP:∀{M:List ab}{H:ai},aj A H (i9 M++ts)->∃H',jN H M=some H'/\aj A H' ts|[],H,U=>⟨H,rfl,U⟩|m::M,H,U=>by have hg:H.get m=.deferred false:=U.rj 0 rfl;obtain⟨H',h1,h2⟩:=OP (U.tV 0 rfl (.deferred true)).tail;simp[hg,h1,h2,jN]
theorem RJ.mI{K:KT}{c:List iW}{M:List ab}{a:cP}(hj:a=.none\/a=.ret)(U:aj A H (i9 M++ts))(h:∀H',aj A H' ts->∃vs,tW L H' c vs/\K (iL vs) H'):RJ ac ⟨pu c K,M,none⟩ a [] L H:=λaa b=>by obtain⟨H',h1,h2⟩:=OP U;obtain⟨vs,h3,d⟩:=h H' h2;have:=h3.yf b;rcases hj with rfl|rfl<;>simp only[kh,pu,h1,this]<;>exact d
theorem Ru.mI{K:KT}{a:List iW}{M:List ab}{s:List SI}(U:aj A H (i9 M++ts))(h:∀H',aj A H' ts->∃vs,tW L H' a vs/\K (iL vs) H'):Ru ac ⟨pu a K,M,none⟩ (.code .ret::s) L H:=Ru.ret (RJ.wp (RJ.mI (.inr rfl) U h))
end
end
section
variable{ac:Nat->aG}{c:Cx}{s:List SI}{L:Kn}{A B H H':ai}{d:Option ab}{l:List be}{ts us:List Th}{q r:ab}{e size n m o k i j bytes:Nat}{vs ws:List AV}{v w sv:AV}{full:Bool}
theorem OQ{c:ap AV}{n:Nat}:∀{m o:Nat}{l:List AV},iI c n o m=some l->l.length=m/\o+m<=max n o/\∀j(h:j<l.length),c.bw .alR (o+j)=l[j]
 |0,o,l,h=>by simp only[iI,adG]at h;grind
 |m+1,o,l,h=>by
  simp only[iI]at h;split at h
  .split at h;·rename_i a hl;injection h with h;subst h;obtain⟨h1,h2,h3⟩:=OQ hl;grind
   grind
  grind
theorem I'{cs:List AV}(h:fE H q o n=some cs)(a:k+m<=n):fE H q (o+k) m=some ((cs.drop k).take m):=by
 unfold fE at h⊢;split at h;·rename_i b c _ _ _ _ hg;obtain⟨h1,h2,h3⟩:=OQ h;by_cases h0:m=0;all_goals grind[iI,yh,akF,alC,alo,aly]
 grind
theorem Sl.bX(h:Sl H size vs n sv):iy sv sv=true:=by rcases h with⟨rfl,_⟩|⟨_,_,_,_,_,_,_,_,_,_,rfl,_⟩;all_goals simp[iy,gz,ab.ip]
theorem vt{xs ts us:List Th}:(xs++ts++us).Perm (ts++(xs++us)):=by rw[<-aj2];exact akH.append_right us
theorem dV.bX{a:Type}{R:ai->a->List AV->Prop}{b:List a}(h:dV size R H b sv):iy sv sv=true:=by obtain⟨vs,h,_⟩:=h;exact h.bX
theorem RO.Ja(U:aj A H ts)(i:Nat){a x:aJ}{re:List jo}(h:∀H',aj A H' (ts.set i (tB e q (sp vs o ws)))->(∀aa,Le (bC L d .alR) aa->fG aa H' re=true)/\RO ac c l s (bC L d .alR) H')(f:bf L a=.az q o:=by exact cw)(g:bf L x=.agg ws:=by exact cw)(hi:ts[i]?=some (tB e q vs):=by rfl)(j:o+ws.length<=vs.length:=by first|decide|exact akc rfl|simp|omega)(k:ws.length=n:=by first|rfl|simp)(m:dS ws=true:=by repeat first|rfl|assumption|(refine ao ?_ ?_)):RO ac c (⟨d,.store n a x,none,[],re⟩::l) s L H:=by obtain⟨u,p,_,hu⟩:=U.ki i hi;obtain⟨H',fp',h1,h2,h3⟩:=tB.wx (ws:=ws) p j m;obtain⟨r,t⟩:=h H' (hu h2 h3);refine RO.Ei (λ_ _ h=>by grind) (λ_ h=>by grind) (λaa b=>⟨H',?_,rfl⟩) r t;simp only[eV,aE,b.gv f rfl,b.gv g rfl,AV.cells,k,bq,h1]
theorem RO.Jb{f:aJ}{args:List aJ}{fv:AV}{i:List AV}{p:ab}{re:List jo}{A cap off:Nat}{ex:Bool}(b:∀k,(∀j,j≠r->k.get j=H.get j)->k.next=H.next->YF ac fv i k λm H'=>m=v/\H'=k)(h:∀n,(∀j,n.get j=H.get j)->n.next=H.next->(∀aa,Le (bC L d v) aa->fG aa n re=true)/\RO ac c l s (bC L d v) n)(C:lk L p=.slice r off A cap ex:=by exact cw)(D:bf L f=fv:=by exact cw)(o:fv.bB=true:=by first|rfl|assumption)(E:args.map (bf L)=i:=by rfl)(q:i.all AV.bB=true:=by repeat first|rfl|assumption|(refine ad ?_ ?_)):RO ac c (⟨d,.call f args,none,[p],re⟩::l) s L H:=λaa a=>by
 have t:args.map (gv aa)=i:=by subst E;refine alk λx F=>?_;exact a.gv rfl (aln.1 q _ (akp F))
 obtain⟨y,u⟩:=b (H.set r .none) (λj hj=>by rw[ai.aF,aq hj]) rfl;have g:∀j,((H.set r .none).set r (H.get r)).get j=H.get j:=λj=>by
  rw[ai.aF];split;·rename_i e;rw[e]
  rename_i e;rw[ai.aF,aq e]
 obtain⟨G,I⟩:=h _ g rfl;obtain⟨z,w⟩:=I _ (a.set d v);refine⟨max y z+1,?_⟩;simp only[Xo,Go.am.aC,fF,eV,a.get C rfl,jq,bq];rw[a.gv D o,t];refine(show Xf ac y fv i _ _ from u).mono (Nat.le_max_left ..) λm H' J=>?_;obtain⟨rfl,rfl⟩:=J;have K:fG (aQ aa d m) (eB (H.set r .none) [(r,H.get r)]) re=true:=G _ (a.set d m);rw[aK K];exact(show Xo ac z l _ _ _ from w).mono (Nat.le_max_right ..) λ_ _ h=>h
theorem RO.Jc(U:aj A H ts){x y:aJ}{r:AV}{t:List AV}{re:List jo}(hs:(sv=.aS/\vs=[]/\n=0)\/∃i o,sv=.slice i o n n true/\Sl H size vs n sv)(b:Sl H size ws 1 r)(h:∀H' v,bm H H'->aj A H' (tS e size (vs++ws) (n+1) true v::ts)->(∀aa,Le (bC L d v) aa->fG aa H' re=true)/\RO ac c l s (bC L d v) H')(h1:dS ws=true:=by repeat first|rfl|assumption|(refine ao ?_ ?_))(u:bf L x=sv:=by exact cw)(w:bf L y=r:=by exact cw)(hb:(n+1)*bytes<=70368744177664:=by omega)(z:n+1<=70368744177664:=by omega):RO ac c (⟨d,.append e bytes size t false x y,none,[],re⟩::l) s L H:=by
 have f:(fw ((n+1)*bytes)&&fw (n+1))=true:=by rw[ww hb,ww z];rfl
 have hd:sv.bB=true:=by rcases hs with⟨rfl,_⟩|⟨_,_,rfl,_⟩<;>rfl
 have key:∃v H',kI e bytes size H sv 1 ws=some (v,H')/\bm H H'/\aj A H' (tS e size (vs++ws) (n+1) true v::ts):=by
  rcases hs with⟨rfl,rfl,rfl⟩|⟨i,o,rfl,hs⟩;·refine⟨.slice H.next 0 1 1 false,H.new (.cells (db ws) (1*size) e true [] 0),?_,bm.new H _,U.push (bm.new H _) (dU.new (by simpa using b.length) false true) (uU H)⟩;rw[akh]at f;simp only[kI,h1,aku,aes,bP,show akb 1 0=false from rfl,f,bq]
  have a:=hs.je;have j:=hs.length;refine⟨.slice H.next 0 (n+1) (n+1) false,H.new (.cells (db (vs++ws)) ((n+1)*size) e true [] 0),?_,bm.new H _,U.push (bm.new H _) (dU.new (by rw[aj8,j,b.length,alB]) false true) (uU H)⟩;have m:ak2 (n+1) n=false:=by cases p:ak2 (n+1) n with|false=>rfl|true=>have:=akc p;omega
  simp only[je,fE]at a;cases hg:H.get i with
  |cells C D J I aM fz=>rw[hg]at a;simp only at a;cases k:iI C D o (n*size)with|none=>rw[k]at a;cases a|some K=>rw[k]at a;simp only[adG,aj1,true_and]at a;subst a;simp only[kI,h1,aku,aes,bP,m,f,hg,k,bq]
  |_=>rw[hg]at a;cases a
 obtain⟨v,H',h2,h3,E⟩:=key;obtain⟨F,G⟩:=h H' v h3 E;have q:=b.bB;refine RO.Ei (λ_ _ h=>by grind) (λ_ h=>by grind) (λaa g=>⟨H',?_,rfl⟩) F G;simp only[eV,aE,g.gv u hd,g.gv w q,b.je,aes,bP,h2]
def pc(v:AV)(b:Nat):AV:=match v with|.slice i o _ cap ex=>.slice i o b cap ex|v=>v
theorem CF{b:Nat}(hs:Sl H size vs n sv)(hb:b<=n):Sl H size (vs.take (b*size)) b (pc sv b):=by
 rcases hs with⟨rfl,rfl,rfl⟩|⟨i,o,cap,ex,d,m,e,a,aM,fz,rfl,hg,f,hl,g,hi,c⟩;·have:b=0:=af;subst this;exact .inl ⟨rfl,rfl,aB⟩
 have cA:b*size<=n*size:=aky _ hb;refine .inr ⟨i,o,cap,ex,d,m,e,a,aM,fz,rfl,hg,af,?_,λj hj=>?_,hi,af⟩;all_goals grind
theorem RO.pc{x y:aJ}{b:Nat}(hs:Sl B size vs n sv)(h:RO ac c l s (bC L d (Go.am.pc sv b)) H)(a:bf L x=sv:=by exact cw)(f:bf L y=.int k (.ofNat b):=by exact cw)(hb:b<=n:=by omega):RO ac c (⟨d,.im e size x none (some y) none,none,[],[]⟩::l) s L H:=by
 rcases hs with⟨rfl,rfl,rfl⟩|⟨i,o,cap,ex,p,m,q,j,aM,fz,rfl,hg,r,hl,t,hi,g⟩;·have:b=0:=af;subst this;refine RO.Cb (m:=0) (b:=0) (a:=0) a rfl ?_ rfl h;simp only[l7,f];rfl
 refine RO.im (m:=cap) (b:=b) (a:=0) a rfl ?_ rfl aB ?_;·simp only[l7,f];exact tu af
 have e1:(if ex&&decide (cap=0)then o else o+0*size)=o:=by split<;>omega
 rw[e1,alJ,alJ,Option.isSome_none,Bool.or_false];exact h
theorem RO.Jd{g:Type}{R:ai->g->List AV->Prop}{a:List g}(hg:bm B H){x y:aJ}{j kd:Nat}(hs:dV size R B a sv)(h:∀q o cs(hj:j<a.length),R B a[j] cs->cs.length=size->(∀t v,cs[t]?=some v->∀{H'},bm B H'->bh H' q (o+t)=some v)->RO ac c l s (bC L d (.az q o)) H)(k:bf L x=sv:=by exact cw)(m:bf L y=.int kd (.ofNat j):=by exact cw)(hj:j<a.length:=by first|assumption|omega):RO ac c (⟨d,.dG size x y,none,[],[]⟩::l) s L H:=by
 obtain⟨q,o,cap,ex,cs,rfl,h1,h2,h3,p⟩:=hs.at hj;have b:q.an<B.next.an:=by
  obtain⟨vs,n,_⟩:=hs;rcases n with⟨h,_⟩|⟨i,_,_,_,_,_,_,_,_,_,h,_,_,_,_,hi,_⟩;·cases h
  injection h with h;subst h;exact hi
 exact RO.dG (h q (o+j*size) cs hj h1 h2 λt v e H' f=>by rw[f.bh b];exact h3 t v e) k m hj
end
section
variable{ac:Nat->aG}{c:Cx}{s:List SI}{L:Kn}{A B H H':ai}{d:Option ab}{l:List be}{ts us:List Th}{q r:ab}{e n m o k i bytes:Nat}{vs:List AV}{v w sv:AV}
def tU(e:Nat)(vs:List AV)(sv:AV):Th where
 P H b:=∃i off ex c m aM,b=i::aM/\sv=.slice i off vs.length vs.length ex/\H.get i=.cells c m e true aM 0/\(ex=true\/m=off+vs.length)/\off+vs.length<=m/\(∀j(h:j<vs.length),c.bw .alR (off+j)=vs[j])/\∀p∈b,p.an<H.next.an
 fr h g hg:=by
  obtain⟨i,off,ex,c,m,aM,rfl,h1,h2,h3,d,f,a⟩:=h
  exact⟨i,off,ex,c,m,aM,rfl,h1,by rw[hg i (aeU ..)];exact h2,h3,d,f,λp k=>ako (a p k) g⟩
 lt h:=by
  obtain⟨i,off,ex,c,m,aM,rfl,h1,h2,h3,d,f,a⟩:=h
  exact a
theorem tU.sl{a:List ab}(h:(tU e vs sv).P H a):Sl H 1 vs vs.length sv:=by obtain⟨i,off,ex,c,m,aM,rfl,h1,h2,h3,f,b,d⟩:=h;exact .inr ⟨i,off,_,ex,c,m,e,true,aM,0,h1,h2,af,(alt _).symm,b,d i (aeU ..),afb _⟩
theorem aj.OS(U:aj A H ts)(i:Nat)(hi:ts[i]?=some (tU e vs sv):=by rfl):Sl H 1 vs vs.length sv:=by obtain⟨b,a⟩:=U.get i hi;exact tU.sl a
theorem aj.toU(U:aj A H ts)(i:Nat)(hi:ts[i]?=some (tS e 1 vs vs.length true (.slice q 0 vs.length vs.length true))):aj A H (ts.set i (tU e vs (.slice q 0 vs.length vs.length true))):=by
 refine U.as i hi λk a=>?_;rcases a with⟨_,_,_,h⟩|⟨l,d,aM,cap,f,rfl,h2,hg,c,g,m,a,b⟩;·grind
 injection h2 with h2 _ _ h3 n;subst h2;exact⟨q,0,true,d,_,aM,rfl,rfl,hg,.inl rfl,af,λj hj=>by grind,a⟩
theorem RO.aee(U:aj A H ts)(i:Nat){x:aJ}(h:∀a,aj A H (ts.set i (tU e vs a))->a.bB=true->a.ee=true->a.cells=[a]->RO ac c l s (bC L d a) H)(hi:ts[i]?=some (tU e (v::vs) sv):=by rfl)(b:bf L x=sv:=by exact cw):RO ac c (⟨d,.im e 1 x (some (.c (.int 3 (.ofNat 1)))) none none,none,[],[]⟩::l) s L H:=by
 obtain⟨r,f,_,hu⟩:=U.ki i hi;obtain⟨j,off,ex,g,m,aM,rfl,h1,h2,h3,k,n,o⟩:=f;subst h1;have q:sM H j e=true:=by simp only[sM,h2,ald]
 refine RO.HW (m:=vs.length+1) (b:=vs.length+1) (a:=1) b rfl rfl (by rfl) (by grind) (v:=.slice j (if ex&&decide (vs.length+1=1)then off else off+1*1) vs.length vs.length ex) aB ?_;refine h _ (hu (t':=tU e vs _) (oS.refl _ H) ⟨j,_,ex,g,m,aM,rfl,rfl,h2,?_,?_,λt p=>?_,o⟩) rfl rfl rfl;·grind
 .simp only[akA]at k;split<;>omega
 split;·grind
 have:=n (t+1) (by simpa using p);grind
theorem RO.aef(U:aj A H ts)(i:Nat){p:ab}{x:aJ}{C:List (Nat×Nat×aJ)}{D v:List AV}(w:AV)(h:∀u H' b,aj A H' (ts.set i (tU e (vs++[w]) b))->b.bB=true->b.ee=true->b.cells=[b]->RO ac c l s (bC ((p,u)::L) d b) H')(hi:ts[i]?=some (tU e vs sv):=by rfl)(hl:qO L (fO D 1) C=some [w]:=by exact cw)(h1:w.ee=true:=by first|rfl|assumption)(E:∀u,bf ((p,u)::L) x=sv:=by(intro u;conv=>lhs;whnf)<;>rfl)(hb:(vs.length+1)*bytes<=70368744177664:=by omega)(hn:vs.length+1<=70368744177664:=by omega):RO ac c (⟨some p,.buildSlice e 1 D C,none,[],[]⟩::⟨d,.append e bytes 1 v false x (.t p),none,[],[]⟩::l) s L H:=by
 have g:dS [w]=true:=by simp[dS,h1]
 refine RO.buildSlice ?_ hl g;have hg:bm H (H.new (.cells (db [w]) [w].length e true [] 0)):=bm.new H _;have y:=U.cI hg;have hs:Sl (H.new (.cells (db [w]) [w].length e true [] 0)) 1 [w] 1 (.slice H.next 0 1 1 true):=(dU.new (H:=H) (e:=e) (size:=1) (n:=1) (vs:=[w]) rfl true true).sl;generalize O:H.new (.cells (db [w]) [w].length e true [] 0)=H1 at*;obtain⟨Q,a,_,hu⟩:=y.ki i hi;obtain⟨j,off,ex,r,m,aM,rfl,G,F,I,J,K,M⟩:=a;subst G;have n:(!(fw ((vs.length+1)*bytes)&&fw (vs.length+1)))=false:=by rw[ww hb,ww hn];rfl
 have o:ak2 (vs.length+1) vs.length=false:=by cases z:ak2 (vs.length+1) vs.length with|false=>rfl|true=>have:=akc z;omega
 have hrd:iI r m off (vs.length*1)=some vs:=by have:=yh (c:=r) (n:=m) (l:=vs) (o:=off) J K;rw[alt];exact this
 have f:∀j(hj:j<(vs++[w]).length),(db (vs++[w])).bw .alR (0+j)=(vs++[w])[j]:=λj hj=>by rw[akh];exact Ao hj
 cases q:ex with
 |true=>subst q;refine RO.append (r:=(.slice H1.next 0 (vs.length+1) (vs.length+1) false,H1.new (.cells (db (vs++[w])) ((vs.length+1)*1) e true [] 0))) hs.je (by simp only[kI,g,aku,aes,bP,o,n,F,hrd,bq]) (h _ _ _ (hu (fp':=[H1.next]) (t':=tU e (vs++[w]) _) ⟨(bm.new H1 _).nx,λp a=>.inr (by rw[aep]at a;subst a;exact afb _),λp _ a=>(bm.new H1 _).dT p a⟩ ⟨H1.next,0,false,_,_,[],rfl,aB,by rw[ai.dJ,aK rfl],.inr aB,aB,f,λp a=>by rw[aep]at a;subst a;rw[ai.nK];omega⟩) rfl rfl rfl) (E _) rfl (by show lk (bC L (some p) _) p=_;simp only[bC,lk,ab.ip.2 rfl]) rfl
 |false=>
  subst q;have N:m=off+vs.length:=by rcases I with h|h;cases h;exact h
  have k:(true&&akb vs.length vs.length&&akb (off+vs.length*1) m&&akb e e&&ak2 0 m)=true:=by rw[N,alt];simp[ald]
  refine RO.append (r:=(.slice H1.next 0 (vs.length+1) (vs.length+1) false,(H1.set j (.cells r m e false aM 0)).new (.cells (db (vs++[w])) ((vs.length+1)*1) e true (j::aM) (0 - off)))) hs.je (by simp only[kI,g,aku,aes,bP,o,n,F,hrd,k,bq]) (h _ _ _ (hu (fp':=H1.next::j::aM) (t':=tU e (vs++[w]) _) ⟨by rw[ai.nK,ai.gD];omega,λp a=>?_,λp a P=>?_⟩ ⟨H1.next,0,false,_,_,j::aM,rfl,aB,by rw[ai.dJ,ai.gD,aK rfl,Nat.zero_sub],.inr aB,aB,f,λp a=>?_⟩) rfl rfl rfl) (E _) rfl (by show lk (bC L (some p) _) p=_;simp only[bC,lk,ab.ip.2 rfl]) rfl
  .rcases aeV.1 a with rfl|a;·exact .inr (afb _)
   exact .inl a
  .rw[ai.dJ,ai.gD,aq (cG af),ai.aF,aq λe:p=j=>a (by rw[e];exact aeU ..)]
  rw[ai.nK,ai.gD];rcases aeV.1 a with rfl|a;·omega
  have:=M p a;omega
end
section
variable{ac:Nat->aG}{c:Cx}{s:List SI}{L:Kn}{A B H H':ai}{d:Option ab}{l:List be}{ts us:List Th}{q r:ab}{e n m o k i cap:Nat}{vs:List AV}{v w sv:AV}{full ex:Bool}
theorem RO.yK(U:aj A H ts)(i:Nat)(f:vs.length=n){a x:aJ}(h:∀H',aj A H' (ts.set i (tS e 1 (vs.set k w) n full (.slice q 0 n cap ex)))->RO ac c l s (bC L d .alR) H')(g:bf L a=.az q (0+k*1):=by exact cw)(j:bf L x=w:=by exact cw)(hi:ts[i]?=some (tS e 1 vs n full (.slice q 0 n cap ex)):=by rfl)(ho:k<vs.length:=by first|omega|assumption)(m:w.ee=true:=by first|rfl|assumption)(o:w.cells=[w]:=by first|rfl|assumption)(hd:w.bB=true:=by first|rfl|assumption):RO ac c (⟨d,.store 1 a x,none,[],[]⟩::l) s L H:=by have e1:vs.map id=vs:=List.map_id vs;refine RO.lC (f:=id) (zs:=vs) U i w f (λH' b=>h H' ?_) g j (by rw[e1];exact hi) ho m o hd;rw[List.map_id]at b;exact b
end
section
variable{ac:Nat->aG}{c:Cx}{s:List SI}{L:Kn}{A B H H':ai}{d:Option ab}{l:List be}{ts us:List Th}{q r:ab}{e n m o k i cap size:Nat}{vs:List AV}{v w sv:AV}{full ex:Bool}
theorem aeg{v:AV}{i:ab}(h:jq v=some i):v.bB=true:=by cases v<;>first|rfl|cases h
def yL(L:Kn):List ab->List (Option ab)
 |[]=>[]
 |p::a=>jq (lk L p)::yL L a
theorem CG{aa:ap AV}(a:Le L aa):∀{ps is:List ab}{H:ai},yL L ps=is.map some->(eV aa H ps).1.next=H.next/\(∀j,j∉is->(eV aa H ps).1.get j=H.get j)/\∀H1,(eB H1 (eV aa H ps).2).next=H1.next/\∀j,(eB H1 (eV aa H ps).2).get j=if j∈is then H.get j else H1.get j
 |[],[],H,_=>⟨rfl,λ_ _=>rfl,λH1=>⟨rfl,λj=>by rfl⟩⟩
 |[],_::_,H,h=>by trivial
 |_::_,[],H,h=>by trivial
 |p::ps,i::is,H,h=>by
  simp only[yL,aj7,akn]at h;have e1:aa.get .alR p=lk L p:=a.get rfl (aeg h.1);obtain⟨h1,h2,h3⟩:=CG a (ps:=ps) (is:=is) (H:=H.set i .none) h.2;simp only[eV,e1,h.1];refine⟨h1,λj hj=>?_,λH1=>⟨?_,λj=>?_⟩⟩;·simp_all[aey,ai.aF,aq,aeU]
  .exact(h3 H1).1
  simp only[eB,ai.aF];by_cases b:j=i;all_goals simp[b,h3,aq,aeV,false_or,ai.aF,bP]
theorem Fs.move{A a H H':ai}(c:H'.next=H.next)(b:a.next.an=A.next.an)(hg:∀j,A.next.an<=j.an->H'.get j=H.get j):∀{fs:List (List ab)}{ts:List Th},Fs A H fs ts->Fs a H' fs ts|[],[],_=>trivial|[],_::_,h=>h.elim|_::_,[],h=>h.elim|f::fs,t::ts,⟨h1,h2,h3,d⟩=>⟨t.fr h1 (by grind) λj hj=>hg j (h2 j hj),λj hj=>by rw[b];exact h2 j hj,h3,Fs.move c b hg d⟩
theorem aj.show{c H1 d:ai}{is:List ab}(a:c.next=H.next)(h0:∀j,j∉is->c.get j=H.get j)(f:∀j∈is,j.an<H.next.an)(b:d.next=H1.next)(hu:∀j,d.get j=if j∈is then H.get j else H1.get j)(U:aj c H1 us):aj H d us:=by
 obtain⟨hg,fs,g⟩:=U;refine⟨⟨by rw[b,<-a];exact hg.nx,λj hj=>?_⟩,fs,g.move b (by rw[a]) λj hj=>?_⟩
 .rw[hu];split;·rfl
  rename_i e;rw[hg.dT j (by rw[a];exact hj),h0 j e]
 rw[hu,aq λe=>?_];have:=f j e;rw[a]at hj;omega
theorem RO.CH{f:aJ}{args:List aJ}{fv:AV}{i:List AV}{u is:List ab}{re:List jo}{Q:AV->List Th->Prop}(U:aj A H ts)(w:∀j∈is,j.an<H.next.an)(g:∀q,q.next=H.next->(∀j,j∉is->q.get j=H.get j)->YF ac fv i q λv H1=>∃e,aj q H1 e/\Q v e)(h:∀v e r,Q v e->bm H r->aj A r (e++ts)->(∀aa,Le (bC L d v) aa->fG aa r re=true)/\RO ac c l s (bC L d v) r)(D:yL L u=is.map some:=by exact cw)(E:bf L f=fv:=by exact cw)(y:fv.bB=true:=by first|rfl|assumption)(F:args.map (bf L)=i:=by rfl)(z:i.all AV.bB=true:=by repeat first|rfl|assumption|(refine ad ?_ ?_)):RO ac c (⟨d,.call f args,none,u,re⟩::l) s L H:=λaa b=>by
 have C:args.map (gv aa)=i:=by subst F;refine alk λx G=>?_;exact b.gv rfl (aln.1 z _ (akp G))
 obtain⟨h1,h2,h3⟩:=CG b (H:=H) D;generalize I:eV aa H u=a at h1 h2 h3;have key:YF ac fv i a.1 λv H1=>fG (aQ aa d v) (eB H1 a.2) re=true/\∃n,Xo ac n l ⟨aQ aa d v,c.M,c.R⟩ (eB H1 a.2) (kh ac c.K s .none):=by refine(g a.1 h1 h2).mono λv H1 t=>?_;obtain⟨e,hl,J⟩:=t;obtain⟨N,O⟩:=h3 H1;have o:=hl.show h1 h2 w N O;obtain⟨P,S⟩:=h v e _ J o.gr (U.fC o);exact⟨P _ (b.set d v),S _ (b.set d v)⟩
 obtain⟨n,T⟩:=key;obtain⟨m,k⟩:=(Ad ac n).call (K:=λm v H1=>fG (aQ aa d v) (eB H1 a.2) re=true/\Xo ac m l ⟨aQ aa d v,c.M,c.R⟩ (eB H1 a.2) (kh ac c.K s .none)) (λm V v H k h=>⟨h.1,h.2.mono k λ_ _ h=>h⟩) ((mono ac n).call (afb _) (λv H1 t=>t.2.imp λm k=>⟨t.1,k⟩) T);refine⟨max n m+1,?_⟩;simp only[Xo,Go.am.aC,fF,bq,I];rw[b.gv E y,C];refine(show Xf ac n fv i _ _ from k).mono (Nat.le_max_left ..) λv H1 p=>?_;rw[aK p.1];exact(show Xo ac m l _ _ _ from p.2).mono (Nat.le_max_right ..) λ_ _ h=>h
theorem RO.wO{x:aJ}{g is:List ab}(r:bh H q o=some v)(m:q∉is)(h:∀i,(∀j,i.get j=H.get j)->i.next=H.next->RO ac c l s (bC L d v) i)(t:bf L x=.az q o:=by exact cw)(u:yL L g=is.map some:=by exact cw):RO ac c (⟨d,.aW x,none,g,[]⟩::l) s L H:=λaa e=>by
 obtain⟨h1,h2,h3⟩:=CG e (H:=H) u;generalize w:eV aa H g=b at h1 h2 h3;obtain⟨y,z⟩:=h3 b.1;have f:∀j,(eB b.1 b.2).get j=H.get j:=λj=>by
  rw[z];split;·rfl
  rename_i k;exact h2 j k
 obtain⟨n,k⟩:=h _ f (y.trans h1) _ (e.set d v);refine⟨n+1,?_⟩;have a:bh b.1 q o=some v:=by simp only[bh,h2 q m];exact r
 have he:aE (.aW x) aa b.1=some (v,b.1):=by
  simp only[aE,e.gv t rfl];unfold bh at a;split at a
  .rename_i cc n _ _ _ _ hg;split at a;·rename_i hb;injection a with a;have p:o<n:=akY.mp hb;simp only[jp,fE,hg,iI,aK p,a,aes,bP];rfl
   cases a
  cases a
 simp[w,he,k,Xo,Go.am.aC,fF,bq,fG]
theorem aj.AU(U:aj A H ts)(i:Nat)(hi:ts[i]?=some (tB e q vs):=by rfl):A.next.an<=q.an/\q.an<H.next.an:=by obtain⟨c,a,b,_⟩:=U.ki i hi;exact⟨b q a.1,a.2.2.elim λ_ h=>h.2.2⟩
theorem aj.CI(U:aj A H ts)(i:Nat)(hi:ts[i]?=some (tS e size vs n full (.slice q o m cap ex)):=by rfl):A.next.an<=q.an/\q.an<H.next.an:=by
 obtain⟨d,a,b,_⟩:=U.ki i hi;have hb:=dU.below a;rcases a with⟨_,_,_,h⟩|⟨f,g,aM,cap,c,rfl,h2,_⟩;·grind
 injection h2 with h2;subst h2;exact⟨b _ (aeU ..),hb _ (aeU ..)⟩
end
end Go.am
end
