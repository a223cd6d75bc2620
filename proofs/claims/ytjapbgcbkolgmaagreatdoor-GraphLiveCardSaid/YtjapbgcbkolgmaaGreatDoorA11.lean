/- A part. No conditions. -/
import Derived.Test.YtjapbgcbkolgmaaGreatDoorA07
import Derived.Test.YtjapbgcbkolgmaaGreatDoorA08
import Derived.Test.YtjapbgcbkolgmaaGreatDoorA09
import Derived.Test.YtjapbgcbkolgmaaGreatDoorA10
import Derived.Laws.RangeAny
import Derived.ChangeArms
import Derived.DataReads
set_option linter.all false
open List renaming range->agA,getD->ahn
open Nat renaming beq->afw,blt->afR,ble->ago
open List.Perm renaming swap->agm
open UInt8 renaming toNat->agW,ofNat->ahh
open Eq renaming mpr->ahm
noncomputable section
namespace Go.al.R
abbrev Cu:=411
abbrev de:=49
abbrev j6:=90
abbrev eg:=24
abbrev tP:=220
abbrev eM:=40
abbrev tQ:=153
abbrev oC:=223
abbrev mE:=47
abbrev rT:=51
abbrev wm:=79
abbrev G3:=173
abbrev G4:=170
abbrev V1:=152
abbrev V2:=214
abbrev V3:=117
abbrev V4:=149
abbrev rU:=29
abbrev Me:=119
abbrev rV:=114
abbrev qF:=86
abbrev wn:=53
abbrev pA:=32
abbrev Cv:=175
abbrev kO:=181
abbrev G5:=185
def p0:af:=.xH
def p1:af:=.xO p0
def p2:af:=.xI p0
def p3:af:=.xO p1
def p4:af:=.xI p1
def p5:af:=.xO p2
def p6:af:=.xI p2
def p7:af:=.xO p3
def p8:af:=.xI p3
def p9:af:=.xO p4
def eP:af:=.xI p4
def eK:af:=.xO p5
def jy:af:=.xI p5
def m8:af:=.xO p6
def fh:af:=.xI p6
def dR:af:=.xO p7
def jz:af:=.xI p7
def iK:af:=.xO p8
def jA:af:=.xI p8
def Ah:af:=.xO p9
def tT:af:=.xI p9
def tV:af:=.xO eP
def rW:af:=.xI eP
def wp:af:=.xO eK
def wt:af:=.xI eK
def qG:af:=.xO jy
def tW:af:=.xI jy
def rX:af:=.xO m8
def Ai:af:=.xI m8
def Cw:af:=.xO fh
def Aj:af:=.xI fh
def tC:af:=.xO dR
def wu:af:=.xI dR
def ww:af:=.xO jz
def Ak:af:=.xI jz
def tY:af:=.xO iK
def t8:af:=.xI iK
def ua:af:=.xO jA
def rY:af:=.xI jA
def m9:af:=.xO Ah
def ub:af:=.xI Ah
def uc:af:=.xO tT
def ud:af:=.xI tT
def wx:af:=.xO tV
def wz:af:=.xI tV
def wA:af:=.xO rW
def ue:af:=.xI rW
def qH:af:=.xO wp
def oD:af:=.xI wp
def pB:af:=.xO wt
def rZ:af:=.xI wt
def wB:af:=.xO qG
def wC:af:=.xI qG
def wD:af:=.xO tW
def sa:af:=.xI tW
def sc:af:=.xO rX
def qI:af:=.xI rX
def uf:af:=.xO Ai
def ug:af:=.xI Ai
def wE:af:=.xO Cw
def wF:af:=.xI Cw
def wG:af:=.xO Aj
def wH:af:=.xI Aj
def wI:af:=.xO tC
def wJ:af:=.xI tC
def uh:af:=.xO wu
def ui:af:=.xI wu
def wK:af:=.xO ww
def wL:af:=.xI ww
def wM:af:=.xO Ak
def wN:af:=.xI Ak
def wO:af:=.xO tY
def wP:af:=.xI tY
def uj:af:=.xO t8
def uk:af:=.xI t8
def wQ:af:=.xO ua
def wR:af:=.xI ua
def wS:af:=.xO rY
def Cy:af:=.xI rY
def Cz:af:=.xO m9
def CB:af:=.xI m9
def CC:af:=.xO ub
def Al:af:=.xI ub
def CD:af:=.xO uc
def CE:af:=.xI uc
def CF:af:=.xO ud
def CG:af:=.xI ud
def CH:af:=.xO wx
def CI:af:=.xI wx
def CJ:af:=.xO wz
def CM:af:=.xI wz
def CN:af:=.xO wA
def CO:af:=.xI wA
def CP:af:=.xO ue
def CQ:af:=.xI ue
def CR:af:=.xO qH
def CS:af:=.xI qH
def CT:af:=.xO oD
def CU:af:=.xI oD
def CV:af:=.xO pB
def CW:af:=.xI pB
def CX:af:=.xO rZ
def CY:af:=.xI rZ
def CZ:af:=.xO wB
def C0:af:=.xI wB
def C1:af:=.xO wC
def C2:af:=.xI wC
def C3:af:=.xO wD
def C4:af:=.xI wD
def C5:af:=.xO sa
def C6:af:=.xI sa
def C7:af:=.xO sc
def C8:af:=.xI sc
def wT:af:=.xO qI
def wU:af:=.xI qI
def wV:af:=.xO uf
def wX:af:=.xI uf
def wY:af:=.xO ug
def wZ:af:=.xI ug
def w7:af:=.xO wE
def C9:af:=.xI wE
def C':af:=.xO wF
def Da:af:=.xI wF
def Db:af:=.xO wG
def Dc:af:=.xI wG
def Dd:af:=.xO wH
def De:af:=.xI wH
def Df:af:=.xO wI
def Dg:af:=.xI wI
def w8:af:=.xO wJ
def w9:af:=.xI wJ
def j7:af:=.xO uh
def xe:af:=.xI uh
def xf:af:=.xO ui
def xi:af:=.xI ui
def xj:af:=.xO wK
def xk:af:=.xI wK
def j8:af:=.xO wL
def xl:af:=.xI wL
def xm:af:=.xO wM
def fi:af:=.xI wM
def xn:af:=.xO wN
def xp:af:=.xI wN
def xu:af:=.xO wO
def Am:af:=.xI wO
def xw:af:=.xO wP
def xx:af:=.xI wP
def xy:af:=.xO uj
def xz:af:=.xI uj
def xA:af:=.xO uk
def xB:af:=.xI uk
def xC:af:=.xO wQ
def xD:af:=.xI wQ
def j9:af:=.xO wR
def xE:af:=.xI wR
def xF:af:=.xO wS
def ka:af:=.xI wS
def xG:af:=.xO Cy
def xJ:af:=.xI Cy
def An:af:=.xO Cz
def xK:af:=.xI Cz
def xL:af:=.xO CB
def xM:af:=.xI CB
def xN:af:=.xO CC
def xP:af:=.xI CC
def xQ:af:=.xO Al
def xR:af:=.xI Al
def xS:af:=.xO CD
def xU:af:=.xI CD
def gM:af:=.xO CE
def xV:af:=.xI CE
def xW:af:=.xO CF
def Ao:af:=.xI CF
def xX:af:=.xO CG
def xY:af:=.xI CG
def xZ:af:=.xO CH
def eA:af:=.xI CH
def x7:af:=.xO CI
def x9:af:=.xI CI
def ye:af:=.xO CJ
def yf:af:=.xI CJ
def yg:af:=.xO CM
def yh:af:=.xI CM
def yi:af:=.xO CN
def yj:af:=.xI CN
def yl:af:=.xO CO
def yn:af:=.xI CO
def yo:af:=.xO CP
def yp:af:=.xI CP
def yq:af:=.xO CQ
def Dh:af:=.xI CQ
def Di:af:=.xO CR
def Dj:af:=.xI CR
def yr:af:=.xO CS
def yt:af:=.xI CS
def yu:af:=.xO CT
def yw:af:=.xI CT
def yz:af:=.xO CU
def yA:af:=.xI CU
def yB:af:=.xO CV
def fj:af:=.xI CV
def yC:af:=.xO CW
def yD:af:=.xI CW
def yE:af:=.xO CX
def yF:af:=.xI CX
def yG:af:=.xO CY
def yH:af:=.xI CY
def yI:af:=.xO CZ
def yJ:af:=.xI CZ
def yK:af:=.xO C0
def yL:af:=.xI C0
def Dk:af:=.xO C1
def Dl:af:=.xI C1
def Dm:af:=.xO C2
def Do:af:=.xI C2
def Dp:af:=.xO C3
def Dq:af:=.xI C3
def Ds:af:=.xO C4
def Dt:af:=.xI C4
def Du:af:=.xO C5
def Dv:af:=.xI C5
def Dw:af:=.xO C6
def Dx:af:=.xI C6
def Dy:af:=.xO C7
def Dz:af:=.xI C7
def DA:af:=.xO C8
def DB:af:=.xI C8
def DC:af:=.xO wT
def ke:af:=.xI wT
def DD:af:=.xO wU
def DE:af:=.xI wU
def G6:af:=.xO wV
def DF:af:=.xI wV
def DG:af:=.xO wX
def DH:af:=.xI wX
def G7:af:=.xO wY
def DI:af:=.xI wY
def DJ:af:=.xO wZ
def DK:af:=.xI wZ
def DL:af:=.xO w7
def Mf:af:=.xI w7
abbrev V5:=3
abbrev V6:=4
abbrev V7:=6
abbrev V8:=7
abbrev V9:=8
abbrev V':=9
abbrev Wa:=10
abbrev Wb:=11
abbrev Wc:=12
abbrev Wd:=13
abbrev We:=14
abbrev Wf:=15
abbrev Wg:=16
abbrev Wh:=25
abbrev Wi:=27
abbrev Wj:=28
abbrev Wk:=29
abbrev Wl:=30
abbrev Wm:=31
abbrev Wn:=32
abbrev Wo:=33
abbrev Wp:=34
abbrev Wq:=36
abbrev Ws:=42
abbrev Wt:=43
abbrev Mg:=46
abbrev Mh:=49
abbrev Wu:=53
abbrev Wv:=54
abbrev Ww:=55
abbrev Wx:=56
abbrev Wy:=57
abbrev Wz:=65
abbrev WA:=69
abbrev WB:=70
abbrev WC:=71
abbrev WD:=72
abbrev WE:=73
abbrev WF:=74
abbrev WG:=75
abbrev WH:=78
abbrev WI:=79
abbrev Mi:=80
abbrev WJ:=85
abbrev Mj:=86
abbrev WK:=89
abbrev WL:=92
abbrev G8:=93
abbrev WM:=95
abbrev WN:=96
abbrev WO:=97
abbrev WP:=98
abbrev WQ:=99
abbrev WR:=100
abbrev WS:=101
abbrev WT:=109
abbrev DM:=115
abbrev WU:=116
abbrev WV:=117
abbrev Ml:=119
abbrev Mm:=120
abbrev G9:=121
abbrev WW:=122
abbrev Hc:=123
abbrev WX:=124
abbrev WY:=125
abbrev Hd:=126
abbrev WZ:=127
abbrev W0:=128
abbrev DN:=136
abbrev W1:=137
abbrev DO:=138
abbrev W2:=147
abbrev W3:=172
abbrev W4:=198
abbrev W5:=199
abbrev W6:=200
abbrev W7:=204
abbrev He:=205
abbrev Mn:=206
abbrev W8:=207
abbrev W9:=208
abbrev Xa:=211
abbrev Xb:=245
abbrev Xd:=246
abbrev Xe:=293
abbrev Mo:=295
abbrev Xg:=296
abbrev Mp:=297
abbrev Xh:=298
abbrev Xi:=299
abbrev Xj:=353
abbrev Mq:=354
abbrev Mr:=355
abbrev Xk:=356
abbrev Xl:=383
abbrev Xm:=388
abbrev Hf:=389
abbrev Xn:=390
abbrev Xp:=392
abbrev Mt:=416
abbrev Mu:=5
namespace Y
abbrev m(d a:af):=O d (.aR (T a))
abbrev l(d a:af):=O d (.bi (T a))
abbrev a(d:af)(n:Nat)(a:af):=O d (.jd n (T a))
abbrev x(d:af)(n:Nat)(a b:af):=O d (.ch n (T a) (T b))
abbrev s(n:Nat)(a b:af):=N (.store n (T a) (T b))
abbrev k(d:af)(n:Nat):=O d (.aR (I 3 n))
abbrev z(d a:af):=O d (.iQ (T a))
abbrev e(d a:af)(n:Nat):=O d (.arith .eql 3 (T a) (I 3 n))
abbrev eu(d a:af)(n:Nat):=O d (.arith .eql 2 (T a) (I 2 n))
abbrev f(d:af):=O d (.aR (C (.bool false)))
abbrev tru(d:af):=O d (.aR (C (.bool true)))
abbrev ld(d:af)(n:Nat)(a:af):=O d (.gR n (T a))
abbrev gm(d a g:af)(b:Bool):=G d (.aR (T a)) g b
abbrev gl(d a g:af)(b:Bool):=G d (.bi (T a)) g b
abbrev ga(d:af)(n:Nat)(a g:af)(b:Bool):=G d (.jd n (T a)) g b
abbrev u(d a b:af):=O d (.arith .lss 3 (T a) (T b))
abbrev pl(d a:af)(n:Nat):=O d (.arith .add 3 (T a) (I 3 n))
abbrev b(d:af)(n:Nat)(a:af):=O d (.box n (T a))
abbrev o(d a b:af):=O d (.pick (T a) (C (.bool true)) (T b))
abbrev y(d a b:af):=O d (.pick (T a) (T b) (C (.bool false)))
abbrev no(d a:af):=O d (.unary .not (T a))
abbrev c(d:af)(n:Nat)(l:List aL):=O d (.call (C (.func n [] [])) l)
abbrev ex(d a:af)(n:Nat):=O d (.extract (T a) n)
abbrev nc(d a:af):=O d (.nilCheck (T a))
abbrev nl(d:af):=O d (.aR (C .aH))
abbrev cT:=C (.bool true)
abbrev cF:=C (.bool false)
abbrev cN:=C .aH
abbrev r:=bg.region
abbrev S:=bg.seq
abbrev H:=bg.cond
abbrev Bl:=bg.block
abbrev Lp:=bg.loop
abbrev X:=bg.exit
abbrev q(l:List bA)(x:bg):bg:=.seq (.region l) x
abbrev t1:=T p1
abbrev Xq:=T Ah
abbrev Xr:=T tV
abbrev Xs:=T wp
abbrev Xt:=T qG
abbrev t28:=T Ai
abbrev Xu:=T Cw
abbrev Xv:=T ww
abbrev Xw:=T tY
abbrev Xx:=T ua
abbrev Xy:=T ub
abbrev Xz:=T uc
abbrev XA:=T ud
abbrev XB:=T wx
abbrev XC:=T wA
abbrev XD:=T pB
abbrev XE:=T uf
abbrev XF:=T wH
abbrev XG:=T wI
abbrev XH:=T wM
abbrev XI:=T uj
abbrev XJ:=T CD
abbrev XK:=T CG
abbrev XL:=T CS
abbrev XM:=T CU
abbrev XN:=T CZ
abbrev XO:=T C1
abbrev XP:=T C2
abbrev XQ:=T C3
abbrev XR:=T C4
abbrev XS:=T C5
abbrev XT:=T C6
abbrev XU:=T C7
abbrev XV:=T w7
abbrev XW:=T w8
abbrev XX:=T xe
abbrev XY:=T xi
abbrev XZ:=T xl
abbrev X9:=T fi
abbrev Ya:=T xn
abbrev afa:=T xp
abbrev afb:=T xu
abbrev Yb:=T xw
abbrev Yc:=T xx
abbrev Yd:=T xy
abbrev Ye:=T xA
abbrev Yf:=T xB
abbrev Yg:=T xE
abbrev Yh:=T ka
abbrev afc:=T xG
abbrev afd:=T xJ
abbrev Yi:=T xK
abbrev Yj:=T xL
abbrev Yk:=T xN
abbrev Yl:=T xS
abbrev afe:=T xV
abbrev aff:=T xW
abbrev Ym:=T xX
abbrev Yn:=T xY
abbrev Yo:=T eA
abbrev Yp:=T x7
abbrev Yq:=T x9
abbrev Yr:=T ye
abbrev Ys:=T yg
abbrev t183:=T yi
abbrev Yt:=T yj
abbrev Yu:=T yn
abbrev Yv:=T yo
abbrev Yw:=T yq
abbrev Yx:=T Dh
abbrev Yy:=T Di
abbrev Yz:=T yw
abbrev YA:=T yC
abbrev YB:=T yD
abbrev YC:=T yE
abbrev YD:=T yG
abbrev YE:=T yI
abbrev YG:=T yJ
abbrev YH:=T Dl
abbrev YI:=T Dq
abbrev YJ:=T DA
abbrev YK:=T DB
abbrev t229:=T DD
abbrev afg:=T DE
abbrev YL:=T DF
abbrev afh:=T DG
abbrev afi:=T DH
abbrev YM:=T DI
abbrev YO:=T DJ
abbrev YP:=T DL
abbrev i0:=I 3 0
abbrev i1:=I 3 1
abbrev v0:=Go.al.i 3 0
abbrev K0(b:af)(e:af)(a:af)(c:af)(f:af)(d:af)(g:af)(h:List bA):List bA:=gm b e a true::gm c f a true::G d (.ch 1 (T b) (T c)) a true::gl g d a true::h
end Y
open Y
def Mv:bg:=(q [b p1 24 p0,f p2] (S (q [ld Ah 4 p1,c tT 4 [Xq],no tV tT] (H Xr (q [c rW 5 [],m p2 rW] .ret) .skip)) (q [ld wp 4 p1,ld qG 4 p1,O p4 (.alloc 32 [.aH,.aH,(.bool false)]),R wt (.call (C (.func 6 [] [])) [Xs]) [p4] [⟨qG,.gR 4 t1,none⟩],R tW (.call (C (.func 7 [] [])) [Xt,(J 3 0)]) [p4] [],m p3 wt,s 3 p4 tW] (q [ld Ai 4 p1,c Cw 9 [t28],c Aj 8 [Xu],m rX Aj,ex tC rX 0,ex wu rX 1,m p5 tC,m p6 wu] (q [ld ww 4 p1,ld tY 4 p1,R Ak (.call (C (.func 10 [] [])) [Xv]) [] [⟨tY,.gR 4 t1,none⟩],c t8 11 [Xw],m p7 Ak,m p8 t8] (S (q [m ua p6,O rY (.arith .neq 3 Xx i0),m m9 rY,gm ub p5 m9 false,G uc (.iQ Xy) m9 false,gm ud p3 m9 false,G wx (.iQ XA) m9 false,G wz (.arith .neq 3 Xz XB) m9 false,o wA m9 wz] (H XC (q [f p2] .ret) .skip)) (S (q [k p9 0] (Bl 0 (Lp (S (q [m ue p9,m qH p3,z oD qH,u pB ue oD] (H XD .skip (X 0))) (S (Bl 1 (S (q [a wC 0 p4,l wD wC,m sa p9,x sc 1 wD sa,l qI sc,no uf qI] (H XE (S (q [m ug p5,m wE p9,x wF 1 ug wE,l wG wF,z wH wG,O wI (.arith .gtr 3 XF i0)] (H XG (q [f p2] .ret) .skip)) (X 1)) .skip)) (q [a wJ 3 p1,l uh wJ,m ui p9,x wK 7 uh ui,a wL 2 wK,ld wM 5 wL,m wO p3,m wP p9,x uj 1 wO wP,l uk uj,R wN (.call (C (.func 12 [] [])) [XH]) [] [⟨uk,.bi XI,none⟩],m eP wN,m eK uk] (S (q [k jy 0] (Bl 2 (Lp (S (q [m wQ jy,a wR 3 p1,l wS wR,m Cy p9,x Cz 7 wS Cy,a CB 1 Cz,l CC CB,z Al CC,u CD wQ Al] (H XJ .skip (X 2))) (S (Bl 3 (r [m CG eP,a CH 3 p1,l CI CH,m CJ p9,x CM 7 CI CJ,a CN 1 CM,l CO CN,m CP jy,x CQ 6 CO CP,a CR 2 CQ,l CS CR,O CT (.append 3 8 1 [v0] false XK XL),m eP CT])) (r [m CE jy,pl CF CE 1,m jy CF])))))) (S (q [ld CU 4 p1,a CV 1 p4,l CW CV,m CX p9,x CY 1 CW CX,l CZ CY,c C0 13 [XM,XN],m m8 C0] (q [m C1 m8,O C2 (.arith .geq 3 XO i0)] (H XP (r [O C3 (.buildSlice 3 0 [v0] []),m C4 eK,O C5 (.append 3 8 1 [v0] false XQ XR),m C6 m8,O C7 (.buildSlice 3 1 [v0] [(0,1,XT)]),O C8 (.append 3 8 1 [v0] false XS XU),m eK C8]) .skip))) (S (q [k fh 0] (Bl 4 (Lp (S (q [m wT fh,m wU p5,m wV p9,x wX 1 wU wV,l wY wX,z wZ wY,u w7 wT wZ] (H XV .skip (X 4))) (S (Bl 5 (q [m Da p5,m Db p9,x Dc 1 Da Db,l Dd Dc,m De fh,x Df 1 Dd De,l Dg Df,m dR Dg] (S (q (m w8 dR::O w9 (.arith .lss 3 XW i0)::m j7 w9::gm xe dR j7 false::ga xf 2 p1 j7 false::gl xi xf j7 false::G xj (.arith .geq 3 XX XY) j7 false::o xk j7 xj::m j8 xk::gm xl fh j8 false::G xm (.arith .gtr 3 XZ i0) j8 false::gm fi xm j8 false::gm xn dR fi true::K0 xp p5 fi xu p9 Am xw (gm xx fh fi true::G xy (.arith .sub 3 Yc i1) fi true::G xz (.ch 1 Yb Yd) fi true::gl xA xz fi true::G xB (.arith .leq 3 Ya Ye) fi true::G xC (.pick X9 Yf cF) j8 false::o xD j8 xC::m j9 xD::gm xE p9 j9 false::G xF (.arith .eql 3 Yg i0) j9 false::gm ka xF j9 false::K0 xG p8 ka xJ dR An xK [G xL (.arith .geq 3 Yi i0) ka true,G xM (.pick Yh Yj cF) j9 false,o xN j9 xM])) (H Yk (q [f p2] .ret) .skip)) (S (q (m xP p8::m xQ dR::x xR 1 xP xQ::l xS xR::O xU (.arith .geq 3 Yl i0)::m gM xU::K0 xV p8 gM xW dR Ao xX [gm xY p9 gM true,G xZ (.arith .eql 3 Ym Yn) gM true,gm eA xZ gM true,gm x7 p7 eA false,gm x9 p8 eA false,gm ye dR eA false,G yf (.ch 1 Yq Yr) eA false,gl yg yf eA false,G yh (.ch 1 Yp Ys) eA false,gl yi yh eA false,gm yj p9 eA false,G yl (.ch 1 t183 Yt) eA false,gl yn yl eA false,G yo (.unary .not Yu) eA false,G yp (.pick Yo cT Yv) gM true,y yq gM yp]) (H Yw (q [f p2] .ret) .skip)) (q [m Dh eP,m Di dR,c Dj 14 [Yx,Yy],m jz Dj] (S (q [k iK 0] (Bl 6 (Lp (S (q [m yr iK,m yt eK,z yu yt,u yw yr yu] (H Yz .skip (X 6))) (S (Bl 7 (r [m yB jz,m fj yB,gm yC p5 fj false,gm yD eK fj false,gm yE iK fj false,G yF (.ch 1 YB YC) fj false,gl yG yF fj false,G yH (.ch 1 YA YD) fj false,gl yI yH fj false,gm yJ dR fj false,G yK (.call (C (.func 14 [] [])) [YE,YG]) fj false,o yL fj yK,m jz yL])) (r [m yz iK,pl yA yz 1,m iK yA])))))) (q [m Dk jz,no Dl Dk] (H YH (q [f p2] .ret) .skip)))))))) (r [m C9 fh,pl C' C9 1,m fh C'])))))) (q [k jA 0] (Bl 8 (Lp (S (q [m Dm jA,m Do eP,z Dp Do,u Dq Dm Dp] (H YI .skip (X 8))) (S (Bl 9 (q (m Du p8::m Dv eP::m Dw jA::x Dx 1 Dv Dw::l Dy Dx::x Dz 1 Du Dy::l DA Dz::m DB p9::O DC (.arith .neq 3 YJ YK)::m ke DC::K0 DD p5 ke DE p9 G6 DF (K0 DG eP ke DH jA G7 DI [G DJ (.call (C (.func 14 [] [])) [YL,YM]) ke true,G DK (.unary .not YO) ke true,y DL ke DK])) (H YP (q [f p2] .ret) .skip))) (r [m Ds jA,pl Dt Ds 1,m jA Dt])))))))))))) (r [m rZ p9,pl wB rZ 1,m p9 wB])))))) (q [c Mf 5 [],m p2 Mf] .ret))))))))
def YQ:aX:=.code 241 [.tmp p2] Mv
structure Tb(ac:Nat->aX):Prop where
 YR:ac 3=YQ
 YS:ac 4=Ui.1
 YT:ac 6=Uv.1
 YU:ac 7=Uz.1
 YV:ac 8=Ug.1
 YW:ac 9=Vn.1
 YX:ac 10=VV.1
 YY:ac 11=VS.1
 YZ:ac 12=UR.1
 Y0:ac 13=UT.1
 Y1:ac 14=VI.1
 Y2:ac 15=U3.1
 Y3:ac 16=Um.1
 Y4:ac 25=Vk.1
 Y5:ac 27=VY.1
 Y6:ac 28=UN.1
 Y7:ac 29=Vu.1
 Y8:ac 30=Vv.1
 Y9:ac 31=UU.1
 Y':ac 32=UY.1
 Za:ac 33=U4.1
 Zb:ac 34=V0.1
 Zc:ac 36=Vb.1
 Zd:ac 42=UP.1
 Ze:ac 43=U2.1
 Zf:ac 46=Uo.1
 Zg:ac 49=VW.1
 Zh:ac 52=UD.1
 Zi:ac 53=UZ.1
 Zj:ac 54=US.1
 Zk:ac 55=VE.1
 Zl:ac 56=UB.1
 Zm:ac 57=UC.1
 Zn:ac 65=UX.1
 Zo:ac 69=Vq.1
 Mw:ac 70=Up.1
 Zp:ac 71=UM.1
 Zq:ac 72=VL.1
 Zr:ac 73=VK.1
 Zs:ac 74=Uk.1
 Zt:ac 75=Vc.1
 Zu:ac 78=U6.1
 Zv:ac 79=Uy.1
 Mx:ac 80=Vw.1
 Zw:ac 85=U7.1
 Zx:ac 86=Vl.1
 Zy:ac 89=Vy.1
 Zz:ac 92=Vf.1
 ZA:ac 93=UQ.1
 ZB:ac 94=Uh.1
 ZC:ac 95=Ur.1
 ZD:ac 96=UV.1
 ZE:ac 97=Un.1
 ZF:ac 98=Vi.1
 ZG:ac 99=VM.1
 ZH:ac 100=VU.1
 ZI:ac 101=Vo.1
 ZJ:ac 109=Vj.1
 ZK:ac 115=Uu.1
 ZL:ac 116=Va.1
 Hg:ac 117=UG.1
 ZM:ac 118=Ud.1
 ZN:ac 119=Uj.1
 My:ac 120=U'.1
 ZO:ac 121=Vm.1
 ZP:ac 122=VC.1
 ZQ:ac 123=Vt.1
 ZR:ac 124=VZ.1
 ZS:ac 125=Uf.1
 ZT:ac 126=Ua.1
 ZU:ac 127=UW.1
 ZV:ac 128=VN.1
 ZW:ac 136=U1.1
 ZX:ac 137=VD.1
 ZY:ac 138=VQ.1
 ZZ:ac 146=Ub.1
 Z0:ac 147=U5.1
 Z1:ac 172=Ut.1
 Hh:ac 198=Ul.1
 Z2:ac 199=Ve.1
 Z3:ac 200=U9.1
 Mz:ac 201=Vz.1
 Z4:ac 202=VB.1
 Z5:ac 203=U8.1
 Z6:ac 204=Vr.1
 Z7:ac 205=UJ.1
 Z8:ac 206=VO.1
 Z9:ac 207=U0.1
 Z':ac 208=Vs.1
 aaa:ac 209=Ue.1
 aab:ac 210=Uc.1
 aac:ac 211=VT.1
 aad:ac 245=VH.1
 aae:ac 246=Vx.1
 aaf:ac 293=UF.1
 aag:ac 294=Vh.1
 MA:ac 295=Us.1
 aah:ac 296=VF.1
 aai:ac 297=UE.1
 aaj:ac 298=VX.1
 aak:ac 299=VP.1
 aal:ac 300=UO.1
 aam:ac 353=Vg.1
 MB:ac 354=Vp.1
 aan:ac 355=VG.1
 aao:ac 356=UK.1
 aap:ac 383=Uw.1
 aaq:ac 388=UI.1
 aar:ac 389=Ux.1
 aas:ac 390=UA.1
 aat:ac 392=UL.1
 aau:ac 414=UH.1
 aav:ac 415=VA.1
 aaw:ac 416=Uq.1
 aax:ac 437=VJ.1
 afj:ac 1001=.dD tq
 afk:ac 1002=.dD Gv
 afl:ac 1003=.dD Gu
 aay:ac 1004=.dD (zZ 93)
 aaz:ac 1005=.dD (z6 93)
end Go.al.R
namespace Go.al.R
section
variable{ac:Nat->aX}{b σ:Type}
def qJ(agg:Bool)(cs:List AV):AV:=if agg then .agg cs else cs.headD .ahp
def Ap(size:Nat)(agg:Bool)(x:aL):bE:=if agg then .gR size x else .bi x
theorem RO.MC{c:Cx}{l:List bA}{s:List SI}{L:Kn}{H:ah}{d:Option af}{size o:Nat}{agg:Bool}{cs:List AV}{q:af}{x:aL}(hc:cs.length=size)(h1:agg=false->size=1)(hat:∀t v,cs[t]?=some v->bx H q (o+t)=some v)(hrd:dK H q o size=some cs)(h:RO ac c l s (bq L d (qJ agg cs)) H)(hx:aW L x=.aE q o:=by exact cw):RO ac c (⟨d,Ap size agg x,none,[],[]⟩::l) s L H:=by
 cases agg with
 |true=>exact RO.gR h (hx:=hx) (hc:=hrd)
 |false=>
  have:=h1 rfl;subst this;obtain⟨v,rfl⟩:∃v,cs=[v]:=by match cs,hc with|[v],_=>exact⟨v,rfl⟩
  exact RO.bi h (hx:=hx) (hc:=hat 0 v rfl)
def na(ac:Nat->aX)(A:ah)(fv:AV)(R:ah->b->List AV->Prop)(agg:Bool)(T:σ->List Th)(I:σ->Prop)(st:σ->b->Bool×σ)(la:List b):Prop:=
 ∀s a cs H us,a∈la->I s->R A a cs->aq A H (T s++us)->YF ac fv [qJ agg cs] H λv c=>v=.bool (st s a).1/\I (st s a).2/\∃d,aq A c (T (st s a).2++d++us)
def kP(st:σ->b->Bool×σ):σ->List b->Nat->Option Nat×σ
 |s,[],_=>(none,s)
 |s,a::l,k=>if(st s a).1 then(some k,(st s a).2)else kP st (st s a).2 l (k+1)
def dC(st:σ->b->Bool×σ):σ->List b->Bool×σ
 |s,[]=>(true,s)
 |s,a::l=>if(st s a).1 then dC st (st s a).2 l else(false,(st s a).2)
theorem MD(st:σ->b->Bool×σ):∀(l:List b)(s:σ)(k:Nat),((kP (λs a=>(!(st s a).1,(st s a).2)) s l k).1.isSome=!(dC st s l).1)/\(kP (λs a=>(!(st s a).1,(st s a).2)) s l k).2=(dC st s l).2
 |[],s,k=>by simp[kP,dC]
 |a::l,s,k=>by
  simp only[kP,dC];cases h:(st s a).1;·simp
  simpa using MD st l (st s a).2 (k+1)
def ME:Option Nat->AV
 |some k=>aN k
 |none=>.int 3 (.negSucc 0)
theorem aaA(o:Option Nat):∃z,ME o=aI z/\decide (0<=z)=o.isSome:=by cases o with|none=>exact⟨-1,rfl,rfl⟩|some k=>exact⟨.ofNat k,rfl,aF⟩
def Hi(ld:bE)(size:Nat):bg:=(.seq (.region [O p4 (.aR (I 3 0))]) (.seq (.seq (.region [O p6 (.aR (T p0)),O p7 (.iQ (T p6)),O p8 (.aR (I 3 0))]) (.block 0 (.loop (.seq (.region [O p9 (.arith .lss 3 (T p8) (T p7))]) (.seq (.cond (T p9) .skip (.exit 0)) (.seq (.block 1 (.seq (.region [O eP (.aR (T p8)),O p5 (.aR (T eP))]) (.seq (.region [O eK (.aR (T p1)),O jy (.aR (T p0)),O m8 (.aR (T p5)),O fh (.ch size (T jy) (T m8)),O dR ld,O jz (.call (T eK) [(T dR)])]) (.cond (T jz) (.seq (.region [O iK (.aR (T p5)),O p4 (.aR (T iK))]) .ret) .skip)))) (.region [O jA (.arith .add 3 (T p8) (I 3 1)),O p8 (.aR (T jA))]))))))) (.seq (.region [O p4 (.aR (J 3 0))]) .ret)))
theorem aaB{f q size:Nat}{agg:Bool}(w:ac f=.code q [.tmp p4] (Hi (Ap size agg (al.T fh)) size))(C:2<=q)(h1:agg=false->size=1){A H:ah}{fv sv:AV}{R:ah->b->List AV->Prop}{T:σ->List Th}{I:σ->Prop}{st:σ->b->Bool×σ}{la:List b}{s:σ}{us:List Th}(D:fv.bC=true)(p:na ac A fv R agg T I st la)(x:∀a cs,R A a cs->(qJ agg cs).bC=true)(hs:cP size R A la sv)(hl:la.length<=1000000)(n:I s)(U:aq A H (T s++us)){K:KT}(r:∀g d,I (kP st s la 0).2->aq A g (T (kP st s la 0).2++d++us)->K (ME (kP st s la 0).1) g):YN ac f [sv,fv] H K:=by
 have⟨hd,_,_,F⟩:=hs.all;refine YF.code w (by simp;omega) ?_;refine au ?_;refine Ru.nm λS M y t=>?_;refine Ru.bT t (up (P:=λk=>∀h i,kP st i (la.drop k) k=kP st s la 0->I i->(∃d,aq A h (T i++d++us))->Ru ac _ S ([(p8,aN k)]++pk M [p0,p1,p7]) h) la.length (λk G z h i c n U=>?_) 0 ab _ s rfl n ⟨[],by simpa using U⟩);subst y;subst t;refine Ru.loop ?_;refine au ?_;refine Ru.cond (λe=>?_) (λe=>?_)
 .rw[afv e]at c;simp only[kP]at c;obtain⟨d,U⟩:=U;refine au ?_;refine RO.bY U.gr hs λJ o1 cs hj u B hat hrd=>?_;have E:=x _ _ u;refine RO.MC B h1 hat hrd ?_;refine RO.cl ((p i la[k] cs h (d++us) (adq e) n u (by simpa using U)).mono ?_);rintro v g⟨rfl,j,l,m⟩;refine au ?_;refine Ru.eE (λo=>?_) (λo=>?_);·rw[o]at c;simp only[bf]at c;refine au ?_;refine Ru.aP ?_;have:=r g (l++d) (by rw[<-c];exact j) (by rw[<-c];simpa using m);rw[<-c]at this;exact this
  rw[o]at c;simp only[abe,bD]at c;refine au ?_;exact Ru.wk (z (k+1) ab ab g _ c j ⟨l++d,by simpa using m⟩)
 rw[agR ab]at c;simp only[kP]at c;obtain⟨d,U⟩:=U;refine Ru.exitTo ?_;refine au ?_;refine Ru.aP ?_;have:=r h d (by rw[<-c];exact n) (by rw[<-c];exact U);rw[<-c]at this;exact this
def MF(g:Nat):bg:=(.seq (.region [O p4 (.aR (C (.bool false)))]) (.seq (.region [O p5 (.aR (T p0)),O p6 (.aR (T p1)),O p7 (.call (C (.func g [] [])) [(T p5),(T p6)]),O p8 (.arith .geq 3 (T p7) (I 3 0)),O p4 (.aR (T p8))]) .ret))
def aaC(e cl a:Nat):bg:=(.seq (.region [O p3 (.box e (T p1)),O p4 (.aR (C (.bool false)))]) (.seq (.region [O p5 (.aR (T p0)),O p6 (.mK cl [] [(T p3)]),O p7 (.call (C (.func a [] [])) [(T p5),(T p6)]),O p8 (.unary .not (T p7)),O p4 (.aR (T p8))]) .ret))
def aaD:bg:=(.seq (.region [O p3 (.aR (C (.bool false)))]) (.seq (.region [O p4 (.bi (T p1)),O p5 (.aR (T p0)),O p6 (.call (T p4) [(T p5)]),O p7 (.unary .not (T p6)),O p3 (.aR (T p7))]) .ret))
def aaE(t n:Nat):bg:=(.seq (.region [O p2 (.box t (T p0)),O p3 (.aR (C (.bool false)))]) (.seq (.region [O p4 (.bi (T p1)),O p5 (.gR n (T p2)),O p6 (.call (T p4) [(T p5)]),O p7 (.unary .not (T p6)),O p3 (.aR (T p7))]) .ret))
section
variable{A H:ah}{fv sv:AV}{R:ah->b->List AV->Prop}{T:σ->List Th}{I:σ->Prop}{st:σ->b->Bool×σ}{la:List b}{s:σ}{us:List Th}
theorem aaF{f g l mt size:Nat}{agg:Bool}(m:ac f=.code mt [.tmp p4] (MF g))(t:2<=mt)(hg:ac g=.code l [.tmp p4] (Hi (Ap size agg (al.T fh)) size))(e:2<=l)(h1:agg=false->size=1)(h:fv.bC=true)(i:na ac A fv R agg T I st la)(n:∀a cs,R A a cs->(qJ agg cs).bC=true)(hs:cP size R A la sv)(hl:la.length<=1000000)(o:I s)(U:aq A H (T s++us)){K:KT}(p:∀c d,I (kP st s la 0).2->aq A c (T (kP st s la 0).2++d++us)->K (.bool (kP st s la 0).1.isSome) c):YN ac f [sv,fv] H K:=by have⟨hd,_,_,u⟩:=hs.all;refine YF.code m (by simp;omega) ?_;refine au ?_;refine RO.cl (aaB hg e h1 h i n hs hl o U λc d j k=>?_);obtain⟨z,q,r⟩:=aaA (kP st s la 0).1;rw[q];refine RO.geq (b:=0) ?_;rw[r];refine au ?_;exact Ru.aP (p c d j k)
theorem Aq{f g h r mt t size e cl:Nat}{agg:Bool}(u:ac f=.code t [.tmp p4] (aaC e cl g))(C:2<=t)(hg:ac g=.code mt [.tmp p4] (MF h))(m:2<=mt)(v:ac h=.code r [.tmp p4] (Hi (Ap size agg (al.T fh)) size))(n:2<=r)(h1:agg=false->size=1)(D:fv.bC=true)(o:fv.dg=true)(c:fv.cells=[fv])(p:∀q,na ac A (.func cl [] [.aE q 0]) R agg (λs=>tB e q [fv]::T s) I (λs a=>(!(st s a).1,(st s a).2)) la)(w:∀a cs,R A a cs->(qJ agg cs).bC=true)(hs:cP size R A la sv)(hl:la.length<=1000000)(x:I s)(U:aq A H (T s++us)){K:KT}(y:∀k l,I (dC st s la).2->aq A k (T (dC st s la).2++l++us)->K (.bool (dC st s la).1) k):YN ac f [sv,fv] H K:=by have⟨hd,_,_,E⟩:=hs.all;obtain⟨z,B⟩:=MD st la s 0;refine YF.code u (by simp;omega) ?_;refine au ?_;refine RO.dp U (λF q d=>?_) (ho:=by rw[c];exact ao o rfl);rw[c]at d;refine au ?_;refine RO.cl (aaF hg m v n h1 rfl (p q) w hs hl x d λk l i j=>?_);rw[z];refine au ?_;rw[B]at i j;refine Ru.aP ?_;rw[Bool.not_not];exact y k l i j.tail
theorem Hj{cl h e:Nat}(j:ac cl=.code h [.tmp p3] aaD)(n:2<=h)(o:fv.bC=true)(k:∀a cs,R A a cs->(qJ false cs).bC=true)(c:na ac A fv R false T I st la)(q:af):na ac A (.func cl [] [.aE q 0]) R false (λs=>tB e q [fv]::T s) I (λs a=>(!(st s a).1,(st s a).2)) la:=by intro s a cs H us l m i U;have p:=k a cs i;refine YF.code j (by simp;omega) ?_;refine aV ?_;refine RO.cl ((c s a cs H (tB e q [fv]::us) l m i U.Cr).mono ?_);rintro v r⟨rfl,d,f,g⟩;refine aV ?_;exact Ru.aP ⟨rfl,d,f,by have:=g.rR;simpa using this⟩
theorem MG{cl j e t n:Nat}(m:ac cl=.code j [.tmp p3] (aaE t n))(u:2<=j)(w:fv.bC=true)(o:∀a cs,R A a cs->cs.length=n/\cL cs=true)(f:na ac A fv R true T I st la)(q:af):na ac A (.func cl [] [.aE q 0]) R true (λs=>tB e q [fv]::T s) I (λs a=>(!(st s a).1,(st s a).2)) la:=by intro s a cs H us hm p k U;obtain⟨c,l⟩:=o a cs k;refine YF.code m (by simp;omega) ?_;refine au ?_;refine RO.dp U (λr d U=>?_) (v:=.agg cs);refine au ?_;refine RO.iC U 1 ?_;refine RO.dj U 0 (m:=n) ?_ (hm:=by show 0+n<=cs.length;omega);rw[show((AV.agg cs).cells.drop 0).take n=cs by show(cs.drop 0).take n=cs;rw[ahd,<-c,agT]];refine RO.cl ((f s a cs r (tB t d cs::tB e q [fv]::us) hm p k (aq.eG (xs:=[tB t d cs,tB e q [fv]]) U)).mono ?_);rintro v x⟨rfl,g,h,i⟩;refine aV ?_;exact Ru.aP ⟨rfl,g,h,by have:=(aq.j5 (xs:=[tB t d cs,tB e q [fv]]) i).tail;simpa using this⟩
end
end
end Go.al.R
namespace Go.al
section
def tX(q:af)(o:bL):Th where
 P H a:=q∈a/\(∀j∈a,j=q)/\H.get q=o/\q.am<H.next.am
 fr h b hg:=⟨h.1,h.2.1,by rw[hg _ h.1];exact h.2.2.1,afT h.2.2.2 b⟩
 lt h:=by intro j hj;rw[h.2.1 j hj];exact h.2.2.2
variable{A H H':ah}{ts us:List Th}{q:af}{o o':bL}
variable{ac:Nat->aX}{c:Cx}{s:List SI}{L:Kn}{d:Option af}{l:List bA}
theorem aq.DP(U:aq A H ts)(o:bL):aq A (H.new o) (tX H.next o::ts):=U.push (fp:=[H.next]) (aZ.new H o) ⟨abx.2 rfl,λj hj=>abx.1 hj,by rw[ah.cz,aJ rfl],by rw[ah.lU];omega⟩ (rS H)
theorem aq.qK(U:aq A H ts)(i:Nat)(hi:ts[i]?=some (tX q o))(o':bL):aq A (H.set q o') (ts.set i (tX q o')):=by
 obtain⟨b,a,_,hu⟩:=U.iJ i hi;refine hu (fp':=[q]) ⟨Nat.le_of_eq (by rw[ah.d8]),λj hj=>?_,λj hj f=>?_⟩ ⟨abx.2 rfl,λj hj=>abx.1 hj,by rw[ah.aC,aJ rfl],by rw[ah.d8];exact a.2.2.2⟩;·rw[abx]at hj;subst hj;exact .inl a.1
 rw[ah.aC,ap λe:j=q=>hj (by rw[e];exact a.1)]
theorem aq.oE(U:aq A H ts)(i:Nat)(hi:ts[i]?=some (tX q o)):H.get q=o:=by obtain⟨b,a⟩:=U.get i hi;exact a.2.2.1
theorem RO.oQ(U:aq A H ts){x:aL}{t:List Nat}(h:∀H' q,aq A H' (tX q (.jU t t 0)::ts)->RO ac c l s (bq L d (.aE q 0)) H')(b:aW L x=.str t:=by exact cw):RO ac c (⟨d,.oQ x,none,[],[]⟩::l) s L H:=RO.op (λaa a=>by simp only[aD,a.gv b rfl]) (h _ _ (U.DP _))
theorem RO.aaG(U:aq A H ts)(i:Nat){x:aL}{t:List Nat}{k:Nat}(h:RO ac c l s (bq L d (.tuple [.bool false])) H)(hi:ts[i]?=some (tX q (.jU t [] k)):=by rfl)(b:aW L x=.aE q 0:=by exact cw):RO ac c (⟨d,.qV x,none,[],[]⟩::l) s L H:=RO.op (λaa a=>by simp only[aD,a.gv b rfl,U.oE i hi]) h
theorem RO.aaH(U:aq A H ts)(i:Nat){x:aL}{t r:List Nat}{k b:Nat}(hb:b<128)(h:∀H',aq A H' (ts.set i (tX q (.jU t r (k+1))))->RO ac c l s (bq L d (.tuple [.bool true,.int 3 (.ofNat k),.int 2 (.ofNat b)])) H')(hi:ts[i]?=some (tX q (.jU t (b::r) k)):=by rfl)(e:aW L x=.aE q 0:=by exact cw):RO ac c (⟨d,.qV x,none,[],[]⟩::l) s L H:=RO.op (λaa a=>by simp only[aD,a.gv e rfl,U.oE i hi,show afR b 128=true from ahm agh hb,bf]) (h _ (U.qK i hi _))
theorem RO.aaI(U:aq A H ts)(i:Nat){x:aL}{t r:List Nat}{k b:Nat}(hb:¬b<128)(h:∀H',aq A H' (ts.set i (tX q (.jU t (t.drop (k+(u8 t k).2)) (k+(u8 t k).2))))->RO ac c l s (bq L d (.tuple [.bool true,.int 3 (.ofNat k),.int 2 (.ofNat (u8 t k).1)])) H')(hi:ts[i]?=some (tX q (.jU t (b::r) k)):=by rfl)(f:aW L x=.aE q 0:=by exact cw):RO ac c (⟨d,.qV x,none,[],[]⟩::l) s L H:=RO.op (λaa a=>by simp only[aD,a.gv f rfl,U.oE i hi,show afR b 128=false from Bool.eq_false_iff.2 λe=>hb (Eq.mp agh e),abe,bD]) (h _ (U.qK i hi _))
theorem aaJ{t:List Nat}{k:Nat}(hb:∀x∈t,x<256)(a:k<t.length)(h:128<=t[k]):128<=(u8 t k).1/\(u8 t k).1<=2147483647:=by
 unfold u8;have hs:k<(ByteArray.mk (t.map ahh).toArray).size:=by simpa[ByteArray.size]using a
 refine⟨(decode_high _ _ hs ?_).1,decode_le _ _⟩;have:((ByteArray.mk (t.map ahh).toArray)[k]'hs).toNat=t[k]:=by show(((t.map ahh).toArray)[k]'(by simpa using a)).toNat=t[k];have:=hb _ (adq a);simp;omega
 rw[this];exact h
theorem RO.aaK(U:aq A H ts)(h:∀H' q,aq A H' (tX q (.map [] 0)::ts)->RO ac c l s (bq L d (.map q)) H'):RO ac c (⟨d,.jo,none,[],[]⟩::l) s L H:=RO.jo (h _ _ (U.DP _))
theorem RO.aaL(U:aq A H ts)(i:Nat){e:cZ}{m k w:aL}{kv v:AV}{es:List aT}{ck:Nat}(h:∀H',aq A H' (ts.set i (tX q (.map (es++[⟨kv,v,ck⟩]) (ck+1))))->RO ac c l s (bq L d .ahp) H')(hi:ts[i]?=some (tX q (.map es ck)):=by rfl)(g:aW L m=.map q:=by exact cw)(j:aW L k=kv:=by exact cw)(n:aW L w=v:=by exact cw)(b:kv.bC=true:=by first|rfl|assumption)(f:v.bC=true:=by first|rfl|assumption)(p:gG e kv=true:=by rfl)(r:findKey e kv es 0=some none:=by rfl):RO ac c (⟨d,.iP e m k w,none,[],[]⟩::l) s L H:=RO.op (λaa a=>by simp only[aD,a.gv g rfl,a.gv j b,a.gv n f,p,afP,abe,bD,U.oE i hi,r]) (h _ (U.qK i hi _))
theorem RO.MH(U:aq A H ts)(i:Nat){e:cZ}{z:AV}{m k:aL}{kv:AV}{es:List aT}{ck:Nat}{r:Option (Nat×AV)}(f:findKey e kv es 0=some r)(h:RO ac c l s (bq L d (.tuple (match r with|some p=>[p.2,.bool true]|none=>[z,.bool false]))) H)(hi:ts[i]?=some (tX q (.map es ck)):=by rfl)(g:aW L m=.map q:=by exact cw)(j:aW L k=kv:=by exact cw)(b:kv.bC=true:=by first|rfl|assumption)(n:gG e kv=true:=by rfl):RO ac c (⟨d,.lookup e z true m k,none,[],[]⟩::l) s L H:=RO.op (λaa a=>by simp only[aD,a.gv g rfl,a.gv j b,n,afP,abe,bD,U.oE i hi,f,bf];cases r<;>rfl) h
theorem iX{aa:ak AV}{p:af}{x:aL}{i:af}{o:Nat}{v:AV}{re:List gE}(b:Le L aa)(g:aW L x=.aE i o)(h:lk L p=v)(hd:v.bC=true)(hs:gT v v=true)(a:bx H i o=some v)(j:du aa H re=true):du aa H (⟨p,.bi x,none⟩::re)=true:=by
 have e:gF H (.aE i o) 1 false=some v:=by
  unfold bx at a;split at a
  .rename_i cc n _ _ _ _ hg;split at a;·rename_i hb;injection a with a;have f:o<n:=agh.mp hb;simp only[gF,dK,hg,eX,aJ f,a,abe,bD];rfl
   cases a
  cases a
 simp only[du,dc,bf,aD,b.gv g rfl,e,afL,b.get h hd,hs,j,ahj]
theorem RO.clR{f:aL}{args:List aL}{fv:AV}{a:List AV}{p:af}{x:aL}{i:af}{o:Nat}{v:AV}(h:YF ac fv a H λr H'=>bx H' i o=some v/\RO ac c l s (bq L d r) H')(m:∀r,aW (bq L d r) x=.aE i o:=by(intro r;conv=>lhs;whnf)<;>rfl)(n:∀r,lk (bq L d r) p=v:=by(intro r;conv=>lhs;whnf)<;>rfl)(b:v.bC=true:=by first|rfl|assumption)(e:gT v v=true:=by first|rfl|assumption|simp[gT,fy,eT])(t:aW L f=fv:=by exact cw)(g:fv.bC=true:=by first|rfl|assumption)(u:args.map (aW L)=a:=by rfl)(j:a.all AV.bC=true:=by repeat first|rfl|assumption|(refine ad ?_ ?_)):RO ac c (⟨d,.call f args,none,[],[⟨p,.bi x,none⟩]⟩::l) s L H:=RO.GV (h.mono λr H' h=>⟨λaa k=>iX k (m r) (n r) b e h.1 rfl,h.2⟩) t g u j
def pC(L:Kn)(H:ah):List fR->List AV->Prop
 |[],[]=>True
 |.tmp p::a,v::b=>lk L p=v/\v.bC=true/\pC L H a b
 |.cell p agg n::a,v::b=>(∃q o,lk L p=.aE q o/\gF H (.aE q o) n agg=some v)/\pC L H a b
 |_,_=>False
theorem pC.tL{aa:ak AV}(a:Le L aa):∀{b:List fR}{e:List AV},pC L H b e->ef aa H b=some e|[],[],_=>rfl|.tmp p::b,v::e,h=>by simp only[ef,pC.tL a h.2.2,afL,a.get h.1 h.2.1]|.cell p agg n::b,v::e,h=>by obtain⟨⟨q,o,h1,h2⟩,h3⟩:=h;simp only[ef,pC.tL a h3,a.get h1 rfl,h2]|[],_::_,h=>h.elim|.tmp _::_,[],h=>h.elim|.cell .. ::_,[],h=>h.elim
theorem RJ.aaN{j:bU}{b:List fR}{K:KT}{e:List AV}(hj:j=.none\/j=.ret)(f:pC L H b e)(h:K (fL e) H):RJ ac (rM b K) j [] L H:=λaa a=>by have:=f.tL (H:=H) a;rcases hj with rfl|rfl<;>simp only[iH,mV,gZ,this]<;>exact h
theorem Ru.iY{a:List fR}{K:KT}{vs:List AV}{s:List SI}(b:pC L H a vs)(h:K (fL vs) H):Ru ac (rM a K) (.code .ret::s) L H:=Ru.ret (RJ.rL (RJ.aaN (.inr rfl) b h))
theorem aq.agg(U:aq A H ts)(i:Nat){e n:Nat}{a:List AV}(hi:ts[i]?=some (tB e q a):=by rfl)(b:a.length=n:=by rfl):gF H (.aE q 0) n true=some (.agg a):=by subst b;obtain⟨g,f⟩:=U.get i hi;have:=tB.lV (o:=0) (m:=a.length) f ab;simp only[gF,this,bf,ahd,agT]
theorem aq.one(U:aq A H ts)(i:Nat){e:Nat}{v:AV}(hi:ts[i]?=some (tB e q [v]):=by rfl):gF H (.aE q 0) 1 false=some v:=by obtain⟨b,a⟩:=U.get i hi;have:=tB.lV (o:=0) (m:=1) a aF;simp only[gF,this,abe,bD];rfl
end
section
variable{ac:Nat->aX}{c:Cx}{s:List SI}{L:Kn}{H A:ah}{d:Option af}{l:List bA}{ts:List Th}{q:af}{e n:Nat}
end
section
variable{ac:Nat->aX}
section
def Body(ac:Nat->aX)(A:ah)(y:AV)(m:Nat)(E:Nat->List AV->List Th->Prop)(J:Nat->List Th->Prop)(D:List Th->Prop):Prop:=
 ∀k args b c us H,k<m->E k args b->J k c->aq A H (b++c++us)->YF ac y args H λv d=>∃a,aq A d (a++us)/\(v=.bool true/\J (k+1) a\/v=.bool false/\D a)
def AB(ac:Nat->aX)(A:ah)(fv:AV)(m:Nat)(E:Nat->List AV->List Th->Prop)(d:List Th)(e Kp:ah->Prop):Prop:=
 ∀y J D b us H(K:KT),y.bC=true->y.dg=true->y.cells=[y]->(∀k b us H,J k b->aq A H (b++us)->Kp H)->Body ac A y m E J D->J 0 b->aq A H (d++b++us)->e H->(∀c a v,aq A c (a++us)->(J m a\/D a)->K v c)->YF ac fv [y] H K
def uq:List af->List AV->Kn->Kn
 |p::a,v::b,L=>uq a b ((p,v)::L)
 |_,_,L=>L
theorem Le.pr:∀{a:List af}{b:List AV}{L:Kn}{aa:ak AV},Le L aa->Le (uq a b L) (kF a b aa)|[],_,_,_,h=>by cases h2:(‹List AV›)<;>simpa[uq,kF]using h|p::a,[],_,_,h=>by simpa[uq,kF]using h|p::a,v::b,L,aa,h=>by simp only[uq,kF];exact Le.pr (h.set (some p) v)
def yR(A:ah)(l:af)(o2:bL)(us:List Th)(J:List Th->Prop)(Dn:bU->List Th->Prop)(j:bU)(_:Fr)(b:ah):Prop:=
 ∃a,aq A b (a++tX l o2::us)/\match j with
  |.none=>J a
  |j=>Dn j a
def MU(ac:Nat->aX)(l:af)(o1 o2:bL)(body:bg)(K:bU->Fr->ah->Prop)(j:bU)(fr:Fr)(H1:ah):Prop:=
 j=.none/\H1.get l=o1/\∃n,Xc ac n body fr (H1.set l o2) K
abbrev AC(A:ah)(l:af)(o2:bL)(us:List Th)(J:List Th->Prop)(Dn:bU->List Th->Prop):Cx:=⟨yR A l o2 us J Dn,[],some l⟩
abbrev Hq(ac:Nat->aX)(l:af)(o1 o2:bL)(body:bg)(K:bU->Fr->ah->Prop):Cx:=⟨MU ac l o1 o2 body K,[],some l⟩
variable{A H:ah}{l:af}{o1 o2:bL}{us xs:List Th}{J:List Th->Prop}{Dn:bU->List Th->Prop}{L:Kn}{body:bg}
theorem Ru.dS(U:aq A H (xs++tX l o1::us))(h:∀b,aq A b (xs++tX l o2::us)->Ru ac (AC A l o2 us J Dn) [.code body] L b):Ru ac (Hq ac l o1 o2 body (yR A l o2 us J Dn)) [] L H:=λaa a=>by have hi:(xs++tX l o1::us)[xs.length]?=some (tX l o1):=aF;have h2:=U.qK xs.length hi o2;have e:(xs++tX l o1::us).set xs.length (tX l o2)=xs++tX l o2::us:=aF;rw[e]at h2;obtain⟨n,c⟩:=h _ h2 aa a;exact⟨rfl,U.oE xs.length hi,n,c.mono (adv _) λ_ _ _ h=>h⟩
theorem Ru.bw{ts:List Th}(U:aq A H (ts++tX l o2::us))(a:J ts):Ru ac (AC A l o2 us J Dn) [] L H:=λ_ _=>⟨ts,U,a⟩
theorem RJ.bw{ts:List Th}{j:bU}(U:aq A H (ts++tX l o2::us))(hj:j≠.none)(a:Dn j ts):RJ ac (AC A l o2 us J Dn) j [] L H:=λ_ _=>⟨ts,U,by cases j<;>first|exact absurd rfl hj|exact a⟩
theorem Ru.DV{ts:List Th}{s:List SI}(U:aq A H (ts++tX l o2::us))(a:Dn .ret ts):Ru ac (AC A l o2 us J Dn) (.code .ret::s) L H:=Ru.ret (RJ.rL (RJ.bw U aF a))
theorem abp{a b:Th}{d c us:List Th}:(a::b::(d++c++us)).Perm (d++(a::c)++(b::us)):=by have h1:(d++(a::c)++(b::us)).Perm (b::(d++(a::c)++us)):=af6;have h2:(d++(a::c)++us).Perm (a::(d++c++us)):=(af6 (l₁:=d)).append_right us;exact((h1.trans (h2.cons b)).trans (agm a b _)).symm
theorem abq{a:Th}{b c us:List Th}:(b++(a::c)++us).Perm (b++c++a::us):=by have h1:(b++c++a::us).Perm (a::(b++c++us)):=af6;have h2:(b++(a::c)++us).Perm (a::(b++c++us)):=(af6 (l₁:=b)).append_right us;exact h2.trans h1.symm
theorem abr{aa:ak AV}{b:List af}{dS body:bg}{c:af}{args:List AV}{Q:KT}(e:H.get l=.loop .ready .none 0 aa b dS body c)(f:args.length=b.length)(g:iH ac (MU ac l (.loop .ready .none 0 aa b dS body c) (.loop .busy .none 0 aa b dS body c) body (yR A l (.loop .busy .none 0 aa b dS body c) us J Dn)) [.code dS] .none ⟨kF b args aa,[],some l⟩ H)(t:∀d a,aq A d (a++tX l (.loop .busy .none 0 aa b dS body c)::us)->J a->Q (.bool true) (d.set l (.loop .ready .none 0 aa b dS body c)))(hd:∀j d a,j≠.none->aq A d (a++tX l (.loop .busy .none 0 aa b dS body c)::us)->Dn j a->Q (.bool false) (d.set l (.loop .done j 0 aa b dS body c))):YF ac (.yield l) args H Q:=by obtain⟨n,r⟩:=g;obtain⟨m,u⟩:=(wi ac n).exec (K:=λm j fr p=>j=.none/\p.get l=.loop .ready .none 0 aa b dS body c/\Xc ac m body fr (p.set l (.loop .busy .none 0 aa b dS body c)) (yR A l (.loop .busy .none 0 aa b dS body c) us J Dn)) (λm w j fr H s h=>⟨h.1,h.2.1,h.2.2.mono s λ_ _ _ h=>h⟩) ((mono ac n).exec (adv _) (λj fr H h=>by obtain⟨h1,h2,k,h3⟩:=h;exact⟨k,h1,h2,h3⟩) r);refine⟨max n m+1,?_⟩;simp only[Xf,dT,e,aJ f];refine(show Xc ac n dS _ H _ from u).mono (Nat.le_max_left ..) λj fr p h=>?_;obtain⟨rfl,h2,h3⟩:=h;simp only[h2];refine h3.mono (Nat.le_max_right ..) λj _ d h=>?_;obtain⟨a,o,q⟩:=h;have v:d.get l=.loop .busy .none 0 aa b dS body c:=o.oE a.length aF;simp only[v];cases j with|none=>exact t d a o q|exit i=>exact hd _ d a aF o q|ret=>exact hd _ d a aF o q
theorem Ru.so{K:bU->Fr->ah->Prop}{M:List af}{s:List SI}{f:aL}{b:List af}{dS body:bg}{fv:AV}{m:Nat}{E:Nat->List AV->List Th->Prop}{S q:List Th}{T Kp:ah->Prop}{J:Nat->List Th->Prop}{Dn:bU->List Th->Prop}(U:aq A H (S++q++us))(W:AB ac A fv m E S T Kp)(X:∀G,aZ H G->T G)(Y:J 0 q)(Z:∀k args p,E k args p->args.length=b.length)(I:∀k c us H,J k c->aq A H (c++us)->Kp H)(hB:∀k args p c us l o1 o2 H,k<m->E k args p->J k c->aq A H (p++c++tX l o1::us)->Ru ac (Hq ac l o1 o2 body (yR A l o2 us (J (k+1)) Dn)) [.code dS] (uq b args L) H)(B:∀g a w,J m a->aq A g (a++tX w (.deferred false)::us)->Ru ac ⟨K,w::M,none⟩ s L g)(C:∀j g a w,j≠.none->Dn j a->aq A g (a++tX w (.deferred false)::us)->RJ ac ⟨K,w::M,none⟩ j s L g)(hf:aW L f=fv:=by exact cw)(N:fv.bC=true:=by first|rfl|assumption):Ru ac ⟨K,M,none⟩ (.code (.rangeFunc f b dS body)::s) L H:=by
 intro aa o;have O:=U.DP (.deferred false);have r:=O.DP (.loop .ready .none 0 aa b dS body H.next);have t:=r.cJ abp;have x:aZ H ((H.new (.deferred false)).new (.loop .ready .none 0 aa b dS body H.next)):=(aZ.new H _).trans (aZ.new _ _);generalize hl:(H.new (.deferred false)).next=l at r t;generalize P:((H.new (.deferred false)).new (.loop .ready .none 0 aa b dS body H.next))=G at r t x;have key:=W (.yield l) (λk a=>∃c,a=tX l (.loop .ready .none 0 aa b dS body H.next)::c/\J k c) (λa=>∃c j,j≠.none/\a=tX l (.loop .done j 0 aa b dS body H.next)::c/\Dn j c) _ _ G (λ_ g=>match g.get l with
  |.loop st bP fn D b aw bd d=>match st with|.busy=>False|_=>iH ac K s bP ⟨aa,H.next::M,none⟩ (g.set l (.loop .exhausted bP fn D b aw bd d))
  |_=>False) rfl rfl rfl (by rintro k _ h g⟨c,rfl,u⟩Q;exact I k c _ g u Q.Cr) ?_ ⟨q,rfl,Y⟩ t (X _ x) ?_;·obtain⟨n,hn⟩:=key;refine⟨n+1,?_⟩;simp only[Xc,exec];rw[hl,P,o.gv hf N];exact hn
 .rintro k args p _ h V hk y⟨c,rfl,u⟩i;have z:=i.cJ abq;have e:V.get l=.loop .ready .none 0 aa b dS body H.next:=z.oE (p++c).length aF;have F:=hB k args p c h l _ (.loop .busy .none 0 aa b dS body H.next) V hk y u z (kF b args aa) o.pr;refine abr e (Z _ _ _ y) F (λg a h1 h2=>⟨tX l _::a,?_,.inl ⟨rfl,a,rfl,h2⟩⟩) (λj g a hj h1 h2=>⟨tX l _::a,?_,.inr ⟨rfl,a,j,hj,rfl,h2⟩⟩);·have:=h1.qK (q:=l) (o:=.loop .busy .none 0 aa b dS body H.next) a.length aF (.loop .ready .none 0 aa b dS body H.next);rw[show(a++tX l (.loop .busy .none 0 aa b dS body H.next)::h).set a.length (tX l (.loop .ready .none 0 aa b dS body H.next))=a++tX l (.loop .ready .none 0 aa b dS body H.next)::h by simp]at this;exact this.rR
  have:=h1.qK (q:=l) (o:=.loop .busy .none 0 aa b dS body H.next) a.length aF (.loop .done j 0 aa b dS body H.next);rw[show(a++tX l (.loop .busy .none 0 aa b dS body H.next)::h).set a.length (tX l (.loop .done j 0 aa b dS body H.next))=a++tX l (.loop .done j 0 aa b dS body H.next)::h by simp]at this;exact this.rR
 rintro g _ v i(⟨c,rfl,R⟩|⟨c,j,hj,rfl,hD⟩);·have e:=i.oE 0 rfl;simp only[e];exact B _ c _ R (i.qK 0 rfl _).tail aa o
 have e:=i.oE 0 rfl;simp only[e];exact C j _ c _ hj hD (i.qK 0 rfl _).tail aa o
end
section
def tR(size:Nat)(vs:List AV)(n:Nat)(v:AV):Th where
 P H b:=Sl H size vs n v/\(∀i o m c e,v=.slice i o m c e->i∈b)/\∀j∈b,j.am<H.next.am
 fr:=by
  rintro H H' b⟨h1,h2,h3⟩g hg
  refine⟨?_,h2,λj hj=>afT (h3 j hj) g⟩
  rcases h1 with h|⟨i,o,cap,ex,c,m,e,f,aM,fz,k,p,a⟩
  .exact .inl h
  .exact .inr ⟨i,o,cap,ex,c,m,e,f,aM,fz,k,by rw[hg i (h2 _ _ _ _ _ k)];exact p,a.1,a.2.1,a.2.2.1,afT a.2.2.2.1 g,a.2.2.2.2⟩
 lt h:=h.2.2
def tZ(F:List Th):Th where
 P H a:=(∀t∈F,∃f,(∀j∈f,j∈a)/\t.P H f)/\∀j∈a,j.am<H.next.am
 fr:=by
  rintro H H' a⟨h1,h2⟩b hg
  refine⟨λt i=>?_,λj hj=>afT (h2 j hj) b⟩
  obtain⟨f,g,k⟩:=h1 t i
  exact⟨f,g,t.fr k b λj hj=>hg j (g j hj)⟩
 lt h:=h.2
variable{A H H':ah}{ts us:List Th}{F:List Th}{t t':Th}{i j e size n o m:Nat}{vs ws:List AV}{v w:AV}{full:Bool}{q r:af}
theorem aq.pE(U:aq A H ts):aq A H (tZ []::ts):=by have h0:(tZ []).P H []:=⟨λt h=>absurd h aF,λj h=>absurd h aF⟩;exact U.push (aZ.refl H) h0 λj h=>absurd h aF
theorem aq.kw(U:aq A H (t::tZ F::ts)):aq A H (tZ (t::F)::ts):=by
 obtain⟨k,a,p⟩:=U;match a,p with
  |b::x::a,⟨h1,h2,h3,g,y,z,B⟩=>
   refine⟨k,(b++x)::a,⟨λu hu=>?_,λj hj=>?_⟩,λj hj=>?_,λj hj f i=>?_,B⟩
   .rcases acn.1 hu with rfl|hu;·exact⟨b,λj hj=>afD _ hj,h1⟩
    obtain⟨f,C,D⟩:=g.1 u hu;exact⟨f,λj hj=>afW _ (C j hj),D⟩
   .rcases ae8.1 hj with h|h;·exact t.lt h1 j h
    exact g.2 j h
   .rcases ae8.1 hj with h|h;·exact h2 j h
    exact y j h
   rcases ae8.1 hj with h|h;·exact h3 j h f (aco _ i)
   exact z j h f i
theorem aq.jO(U:aq A H ts)(i:Nat)(hi:ts[i]?=some (tZ F))(a:t∈F):∃f,t.P H f:=by obtain⟨g,b⟩:=U.get i hi;obtain⟨f,_,h⟩:=b.1 t a;exact⟨f,h⟩
theorem aq.abs(U:aq A H (tZ F::ts))(b:t∈F)(h:∀f,t.P H f->t'.P H f):aq A H (tZ (t'::F)::ts):=by
 refine U.as 0 rfl λj a=>⟨λu hu=>?_,a.2⟩;rcases acn.1 hu with rfl|hu;·obtain⟨f,g,i⟩:=a.1 t b;exact⟨f,g,h f i⟩
 exact a.1 u hu
theorem tS.kR{a:List af}(h:(tS e size vs n full v).P H a):(tR size vs n v).P H a:=by
 refine⟨cM.sl h,λi o m c ex b=>?_,cM.below h⟩;rcases h with⟨_,_,_,h⟩|⟨g,j,aM,cap,f,rfl,h2,_⟩;·rw[b]at h;cases h
 rw[b]at h2;injection h2 with h2;subst h2;exact abL ..
theorem Fs.jZ:∀{fs:List (List af)}{ts:List Th}{i j:Nat},Fs A H fs ts->ts[i]?=some t->ts[j]?=some t'->i<j->∃f g,t.P H f/\t'.P H g/\∀p∈f,p∉g|[],[],i,_,_,h,_,_=>by simp at h|[],_::_,_,_,h,_,_,_=>h.elim|_::_,[],_,_,h,_,_,_=>h.elim|b::fs,t0::ts,0,j+1,⟨h1,_,h3,a⟩,hi,hj,_=>by simp only[agO,aaM]at hi;subst hi;simp only[af9]at hj;obtain⟨g,e,h⟩:=Fs.at a hj;exact⟨b,g,h1,h,λp k=>h3 p k g (List.mem_of_getElem? e)⟩|b::fs,t0::ts,i+1,j+1,⟨_,_,_,a⟩,hi,hj,u=>by simp only[af9]at hi hj;exact Fs.jZ a hi hj ab|_::_,_::_,_,0,_,_,_,h=>by omega
variable{c:Cx}{s:List SI}{L:Kn}{d:Option af}{l:List bA}
theorem RO.abt(U:aq A H ts)(i j:Nat){x:aL}{p:af}{E cap:Nat}{ex:Bool}(h:∀H',aq A H' ts->RO ac c l s (bq L d v) H')(J:aW L x=.aE q o:=by exact cw)(G:lk L p=.slice r 0 E cap ex:=by exact cw)(hi:ts[i]?=some (tB e q vs):=by rfl)(hj:ts[j]?=some (tS m size ws n full (.slice r 0 E cap ex)):=by rfl)(y:i≠j:=by decide)(K:vs[o]?=some v:=by rfl):RO ac c (⟨d,.bi x,none,[p],[]⟩::l) s L H:=by
 have z:q≠r:=by
  obtain⟨_,O,I⟩:=U;rcases Nat.lt_or_gt_of_ne y with a|a
  .obtain⟨f,g,h1,h2,h3⟩:=I.jZ hi hj a;rintro rfl;refine h3 q h1.1 ?_;rcases h2 with⟨_,_,_,h⟩|⟨M,N,aM,cap,B,rfl,h2,_⟩;·cases h
   injection h2 with h2;subst h2;exact abL ..
  obtain⟨f,g,h1,h2,h3⟩:=I.jZ hj hi a;rintro rfl;refine h3 q ?_ h2.1;rcases h1 with⟨_,_,_,h⟩|⟨M,N,aM,cap,B,rfl,h2,_⟩;·cases h
  injection h2 with h2;subst h2;exact abL ..
 obtain⟨P,C⟩:=U.get i hi;have u:=tB.cell C K;have D:aq A ((H.set r .none).set r (H.get r)) ts:=U.bN rfl λk=>by
  rw[ah.aC];split;·rename_i e;rw[e]
  rename_i e;rw[ah.aC,ap e]
 refine RO.Cq (λ_ _ h=>by cases h) (λ_ h=>by cases h) (λaa b=>⟨H.set r .none,?_,?_⟩) (λ_ _=>rfl) (h _ D)
 .simp only[cW,b.get G rfl,fA,aD,b.gv J rfl];have:bx (H.set r .none) q o=some v:=by simp only[bx,ah.aC,ap z];exact u
  unfold bx at this;split at this
  .rename_i cc n _ _ _ _ hg;split at this;·rename_i hb;injection this with this;have a:o<n:=agh.mp hb;simp only[gF,dK,hg,eX,aJ a,this,abe,bD];rfl
   cases this
  cases this
 simp only[cW,b.get G rfl,fA,cH]
def fJ(M:List af):List Th:=M.map λm=>tX m (.deferred false)
theorem MV:∀{M:List af}{H:ah},aq A H (fJ M++ts)->∃H',gZ H M=some H'/\aq A H' ts|[],H,U=>⟨H,rfl,U⟩|m::M,H,U=>by have hg:H.get m=.deferred false:=U.oE 0 rfl;obtain⟨H',h1,h2⟩:=MV (U.qK 0 rfl (.deferred true)).tail;exact⟨H',by simp only[gZ,hg];exact h1,h2⟩
theorem RJ.kS{K:KT}{f:List fR}{M:List af}{a:bU}(hj:a=.none\/a=.ret)(U:aq A H (fJ M++ts))(h:∀H',aq A H' ts->∃vs,pC L H' f vs/\K (fL vs) H'):RJ ac ⟨mV f K,M,none⟩ a [] L H:=λaa b=>by obtain⟨H',h1,h2⟩:=MV U;obtain⟨vs,h3,g⟩:=h H' h2;have:=h3.tL b;rcases hj with rfl|rfl<;>simp only[iH,mV,h1,this]<;>exact g
theorem Ru.kS{K:KT}{a:List fR}{M:List af}{s:List SI}(U:aq A H (fJ M++ts))(h:∀H',aq A H' ts->∃vs,pC L H' a vs/\K (fL vs) H'):Ru ac ⟨mV a K,M,none⟩ (.code .ret::s) L H:=Ru.ret (RJ.rL (RJ.kS (.inr rfl) U h))
end
end
section
variable{ac:Nat->aX}{c:Cx}{s:List SI}{L:Kn}{A B H H':ah}{d:Option af}{l:List bA}{ts us:List Th}{q r:af}{e size n m o k i j bytes:Nat}{vs ws:List AV}{v w sv:AV}{full:Bool}
theorem MW{c:ak AV}{n:Nat}:∀{m o:Nat}{l:List AV},eX c n o m=some l->l.length=m/\o+m<=max n o/\∀j(h:j<l.length),c.bp .ahp (o+j)=l[j]
 |0,o,l,h=>by simp only[eX,aaM]at h;subst h;exact⟨rfl,ab,λj h=>by simp at h⟩
 |m+1,o,l,h=>by
  simp only[eX]at h;split at h
  .rename_i a;split at h;·rename_i b hl;injection h with h;subst h;obtain⟨h1,h2,h3⟩:=MW hl;refine⟨by simp[h1],ab,λj hj=>?_⟩;cases j with|zero=>rfl|succ j=>rw[show o+(j+1)=o+1+j by omega,h3 j (by simpa using hj)];rfl
   cases h
  cases h
theorem Hr{cs:List AV}(h:dK H q o n=some cs)(g:k+m<=n):dK H q (o+k) m=some ((cs.drop k).take m):=by
 unfold dK at h⊢;split at h
 .rename_i a b _ _ _ _ hg;obtain⟨h1,h2,h3⟩:=MW h;by_cases h0:m=0;·subst h0;simp[eX]
  have:=tO (c:=a) (n:=b) (l:=(cs.drop k).take m) (o:=o+k) (by simp;omega) (λx f=>by simp only[afH,agv]at f;rw[agM,h3 (k+x) ab];simp);simp only[afH,agv]at this;rw[agZ ab]at this;exact this
 cases h
theorem Sl.bN(h:Sl H size vs n sv):gT sv sv=true:=by
 rcases h with⟨rfl,_⟩|⟨_,_,_,_,_,_,_,_,_,_,rfl,_⟩;·rfl
 simp[gT,fy,af.eS]
theorem ur{xs ts us:List Th}:(xs++ts++us).Perm (ts++(xs++us)):=by rw[<-afu];exact afV.append_right us
theorem cP.bN{a:Type}{R:ah->a->List AV->Prop}{b:List a}(h:cP size R H b sv):gT sv sv=true:=by obtain⟨vs,h,_⟩:=h;exact h.bN
theorem RO.MX(U:aq A H ts)(i:Nat){a x:aL}{re:List gE}(h:∀H',aq A H' (ts.set i (tB e q (sp vs o ws)))->(∀aa,Le (bq L d .ahp) aa->du aa H' re=true)/\RO ac c l s (bq L d .ahp) H')(f:aW L a=.aE q o:=by exact cw)(g:aW L x=.agg ws:=by exact cw)(hi:ts[i]?=some (tB e q vs):=by rfl)(j:o+ws.length<=vs.length:=by first|decide|exact afx rfl|simp|omega)(p:ws.length=n:=by first|rfl|simp)(t:cL ws=true:=by repeat first|rfl|assumption|(refine ao ?_ ?_)):RO ac c (⟨d,.store n a x,none,[],re⟩::l) s L H:=by obtain⟨D,u,_,hu⟩:=U.iJ i hi;obtain⟨H',C,h1,h2,h3⟩:=tB.rP (ws:=ws) u j t;obtain⟨y,z⟩:=h H' (hu h2 h3);refine RO.Cq (λ_ _ h=>by cases h) (λ_ h=>by cases h) (λaa b=>⟨H',?_,rfl⟩) y z;simp only[cW,aD,b.gv f rfl,b.gv g rfl,AV.cells,p,bf,h1]
theorem RO.abu{f:aL}{args:List aL}{fv:AV}{i:List AV}{p:af}{re:List gE}{J cap off:Nat}{ex:Bool}(b:∀t,(∀j,j≠r->t.get j=H.get j)->t.next=H.next->YF ac fv i t λu H'=>u=v/\H'=t)(h:∀y,(∀j,y.get j=H.get j)->y.next=H.next->(∀aa,Le (bq L d v) aa->du aa y re=true)/\RO ac c l s (bq L d v) y)(K:lk L p=.slice r off J cap ex:=by exact cw)(M:aW L f=fv:=by exact cw)(z:fv.bC=true:=by first|rfl|assumption)(N:args.map (aW L)=i:=by rfl)(C:i.all AV.bC=true:=by repeat first|rfl|assumption|(refine ad ?_ ?_)):RO ac c (⟨d,.call f args,none,[p],re⟩::l) s L H:=λaa a=>by
 have D:args.map (gv aa)=i:=by subst N;refine agG λx O=>?_;exact a.gv rfl (agn.1 C _ (afI O))
 obtain⟨G,E⟩:=b (H.set r .none) (λj hj=>by rw[ah.aC,ap hj]) rfl;have g:∀j,((H.set r .none).set r (H.get r)).get j=H.get j:=λj=>by
  rw[ah.aC];split;·rename_i e;rw[e]
  rename_i e;rw[ah.aC,ap e]
 obtain⟨P,Q⟩:=h _ g rfl;obtain⟨I,F⟩:=Q _ (a.set d v);refine⟨max G I+1,?_⟩;simp only[Xo,Go.al.az,dc,cW,a.get K rfl,fA,bf];rw[a.gv M z,D];refine(show Xf ac G fv i _ _ from E).mono (Nat.le_max_left ..) λu H' R=>?_;obtain⟨rfl,rfl⟩:=R;have S:du (aK aa d u) (cH (H.set r .none) [(r,H.get r)]) re=true:=P _ (a.set d u);rw[aJ S];exact(show Xo ac I l _ _ _ from F).mono (Nat.le_max_right ..) λ_ _ h=>h
theorem RO.abv(U:aq A H ts){x y:aL}{C:AV}{D:List AV}{re:List gE}(hs:(sv=.aH/\vs=[]/\n=0)\/∃i o,sv=.slice i o n n true/\Sl H size vs n sv)(b:Sl H size ws 1 C)(h:∀H' v,aZ H H'->aq A H' (tS e size (vs++ws) (n+1) true v::ts)->(∀aa,Le (bq L d v) aa->du aa H' re=true)/\RO ac c l s (bq L d v) H')(h1:cL ws=true:=by repeat first|rfl|assumption|(refine ao ?_ ?_))(E:aW L x=sv:=by exact cw)(F:aW L y=C:=by exact cw)(hb:(n+1)*bytes<=70368744177664:=by omega)(G:n+1<=70368744177664:=by omega):RO ac c (⟨d,.append e bytes size D false x y,none,[],re⟩::l) s L H:=by
 have f:(dH ((n+1)*bytes)&&dH (n+1))=true:=by rw[rO hb,rO G];rfl
 have hd:sv.bC=true:=by rcases hs with⟨rfl,_⟩|⟨_,_,rfl,_⟩<;>rfl
 have key:∃v H',iR e bytes size H sv 1 ws=some (v,H')/\aZ H H'/\aq A H' (tS e size (vs++ws) (n+1) true v::ts):=by
  rcases hs with⟨rfl,rfl,rfl⟩|⟨i,o,rfl,hs⟩;·refine⟨.slice H.next 0 1 1 false,H.new (.cells (bX ws) (1*size) e true [] 0),?_,aZ.new H _,U.push (aZ.new H _) (cM.new (by simpa using b.length) false true) (rS H)⟩;rw[afC]at f;simp only[iR,h1,afP,abe,bD,show afw 1 0=false from rfl,f,bf]
  have a:=hs.gh;have j:=hs.length;refine⟨.slice H.next 0 (n+1) (n+1) false,H.new (.cells (bX (vs++ws)) ((n+1)*size) e true [] 0),?_,aZ.new H _,U.push (aZ.new H _) (cM.new (by rw[afq,j,b.length,ag8]) false true) (rS H)⟩;have t:ago (n+1) n=false:=by cases u:ago (n+1) n with|false=>rfl|true=>have:=afx u;omega
  simp only[gh,dK]at a;cases hg:H.get i with
  |cells I J P O aM fz=>rw[hg]at a;simp only at a;cases p:eX I J o (n*size)with|none=>rw[p]at a;cases a|some Q=>rw[p]at a;simp only[aaM,abS,true_and]at a;subst a;simp only[iR,h1,afP,abe,bD,t,f,hg,p,bf]
  |_=>rw[hg]at a;cases a
 obtain⟨v,H',h2,h3,K⟩:=key;obtain⟨M,N⟩:=h H' v h3 K;have z:=b.bC;refine RO.Cq (λ_ _ h=>by cases h) (λ_ h=>by cases h) (λaa g=>⟨H',?_,rfl⟩) M N;simp only[cW,aD,g.gv E hd,g.gv F z,b.gh,abe,bD,h2]
def ng(v:AV)(b:Nat):AV:=match v with|.slice i o _ cap ex=>.slice i o b cap ex|v=>v
theorem DW{b:Nat}(hs:Sl H size vs n sv)(hb:b<=n):Sl H size (vs.take (b*size)) b (ng sv b):=by
 rcases hs with⟨rfl,rfl,rfl⟩|⟨i,o,cap,ex,g,m,h,a,aM,fz,rfl,hg,t,hl,p,hi,f⟩;·have:b=0:=ab;subst this;exact .inl ⟨rfl,rfl,aF⟩
 have bW:b*size<=n*size:=afN _ hb;refine .inr ⟨i,o,cap,ex,g,m,h,a,aM,fz,rfl,hg,ab,?_,λj hj=>?_,hi,ab⟩;·rw[afH];omega
 rw[afH]at hj;rw[p j ab];simp
theorem RO.ng{x y:aL}{b:Nat}(hs:Sl B size vs n sv)(h:RO ac c l s (bq L d (Go.al.ng sv b)) H)(a:aW L x=sv:=by exact cw)(f:aW L y=.int k (.ofNat b):=by exact cw)(hb:b<=n:=by omega):RO ac c (⟨d,.gD e size x none (some y) none,none,[],[]⟩::l) s L H:=by
 rcases hs with⟨rfl,rfl,rfl⟩|⟨i,o,cap,ex,t,m,u,p,aM,fz,rfl,hg,z,hl,C,hi,g⟩;·have:b=0:=ab;subst this;refine RO.Cp (m:=0) (b:=0) (a:=0) a rfl ?_ rfl h;simp only[iI,f];exact mX (adv _)
 refine RO.gD (m:=cap) (b:=b) (a:=0) a rfl ?_ rfl aF ?_;·simp only[iI,f];exact mX ab
 have j:(if ex&&decide (cap=0)then o else o+0*size)=o:=by split<;>omega
 rw[j,ahg,ahg,Option.isSome_none,Bool.or_false];exact h
theorem RO.abw{g:Type}{R:ah->g->List AV->Prop}{a:List g}(hg:aZ B H){x y:aL}{j kd:Nat}(hs:cP size R B a sv)(h:∀q o cs(hj:j<a.length),R B a[j] cs->cs.length=size->(∀t v,cs[t]?=some v->∀{H'},aZ B H'->bx H' q (o+t)=some v)->RO ac c l s (bq L d (.aE q o)) H)(p:aW L x=sv:=by exact cw)(u:aW L y=.int kd (.ofNat j):=by exact cw)(hj:j<a.length:=by first|assumption|omega):RO ac c (⟨d,.ch size x y,none,[],[]⟩::l) s L H:=by
 obtain⟨q,o,cap,ex,cs,rfl,h1,h2,h3,C⟩:=hs.at hj;have b:q.am<B.next.am:=by
  obtain⟨vs,z,_⟩:=hs;rcases z with⟨h,_⟩|⟨i,_,_,_,_,_,_,_,_,_,h,_,_,_,_,hi,_⟩;·cases h
  injection h with h;subst h;exact hi
 exact RO.ch (h q (o+j*size) cs hj h1 h2 λt v e H' f=>by rw[f.bx b];exact h3 t v e) p u hj
end
section
variable{ac:Nat->aX}{c:Cx}{s:List SI}{L:Kn}{A B H H':ah}{d:Option af}{l:List bA}{ts us:List Th}{q r:af}{e n m o k i bytes:Nat}{vs:List AV}{v w sv:AV}
def tU(e:Nat)(vs:List AV)(sv:AV):Th where
 P H b:=∃i off ex c m aM,b=i::aM/\sv=.slice i off vs.length vs.length ex/\H.get i=.cells c m e true aM 0/\(ex=true\/m=off+vs.length)/\off+vs.length<=m/\(∀j(h:j<vs.length),c.bp .ahp (off+j)=vs[j])/\∀p∈b,p.am<H.next.am
 fr h t hg:=by
  obtain⟨i,off,ex,c,m,aM,rfl,h1,h2,h3,f,g,a⟩:=h
  exact⟨i,off,ex,c,m,aM,rfl,h1,by rw[hg i (abL ..)];exact h2,h3,f,g,λp u=>afT (a p u) t⟩
 lt h:=by
  obtain⟨i,off,ex,c,m,aM,rfl,h1,h2,h3,f,g,a⟩:=h
  exact a
theorem tU.sl{a:List af}(h:(tU e vs sv).P H a):Sl H 1 vs vs.length sv:=by obtain⟨i,off,ex,c,m,aM,rfl,h1,h2,h3,g,b,f⟩:=h;exact .inr ⟨i,off,_,ex,c,m,e,true,aM,0,h1,h2,ab,(agU _).symm,b,f i (abL ..),adv _⟩
theorem aq.MY(U:aq A H ts)(i:Nat)(hi:ts[i]?=some (tU e vs sv):=by rfl):Sl H 1 vs vs.length sv:=by obtain⟨b,a⟩:=U.get i hi;exact tU.sl a
theorem aq.toU(U:aq A H ts)(i:Nat)(hi:ts[i]?=some (tS e 1 vs vs.length true (.slice q 0 vs.length vs.length true))):aq A H (ts.set i (tU e vs (.slice q 0 vs.length vs.length true))):=by
 refine U.as i hi λy a=>?_;rcases a with⟨_,_,_,h⟩|⟨z,g,aM,cap,u,rfl,h2,hg,f,x,p,a,b⟩;·cases h
 injection h2 with h2 _ _ h3 t;subst h2;subst h3;subst t;exact⟨q,0,true,g,_,aM,rfl,rfl,hg,.inl rfl,ab,λj hj=>by rw[afC];exact p j hj,a⟩
theorem RO.aby(U:aq A H ts)(i:Nat){x:aL}(h:∀a,aq A H (ts.set i (tU e vs a))->a.bC=true->a.dg=true->a.cells=[a]->RO ac c l s (bq L d a) H)(hi:ts[i]?=some (tU e (v::vs) sv):=by rfl)(f:aW L x=sv:=by exact cw):RO ac c (⟨d,.gD e 1 x (some (.c (.int 3 (.ofNat 1)))) none none,none,[],[]⟩::l) s L H:=by
 obtain⟨E,g,_,hu⟩:=U.iJ i hi;obtain⟨j,off,ex,p,m,aM,rfl,h1,h2,h3,u,y,z⟩:=g;subst h1;have b:oT H j e=true:=by simp only[oT,h2,agB]
 refine RO.L9 (m:=vs.length+1) (b:=vs.length+1) (a:=1) f rfl rfl (by simp only[iI,aW];exact mX ab) (by rw[b];simp) (v:=.slice j (if ex&&decide (vs.length+1=1)then off else off+1*1) vs.length vs.length ex) aF ?_;refine h _ (hu (t':=tU e vs _) (lr.refl _ H) ⟨j,_,ex,p,m,aM,rfl,rfl,h2,?_,?_,λt C=>?_,z⟩) rfl rfl rfl
 .rcases h3 with h3|h3;·exact .inl h3
  simp only[afB]at h3;cases ex with|true=>exact .inl rfl|false=>right;simp only[Bool.false_and,abe,bD];omega
 .simp only[afB]at u;split<;>omega
 split;·rename_i D;simp only[ae9,decide_eq_true_eq]at D;omega
 have:=y (t+1) (by simpa using C);rw[show off+1*1+t=off+(t+1)by omega,this];rfl
theorem RO.abz(U:aq A H ts)(i:Nat){p:af}{x:aL}{K:List (Nat×Nat×aL)}{M G:List AV}(w:AV)(h:∀u H' b,aq A H' (ts.set i (tU e (vs++[w]) b))->b.bC=true->b.dg=true->b.cells=[b]->RO ac c l s (bq ((p,u)::L) d b) H')(hi:ts[i]?=some (tU e vs sv):=by rfl)(hl:mB L (eo M 1) K=some [w]:=by exact cw)(h1:w.dg=true:=by first|rfl|assumption)(N:∀u,aW ((p,u)::L) x=sv:=by(intro u;conv=>lhs;whnf)<;>rfl)(hb:(vs.length+1)*bytes<=70368744177664:=by omega)(hn:vs.length+1<=70368744177664:=by omega):RO ac c (⟨some p,.buildSlice e 1 M K,none,[],[]⟩::⟨d,.append e bytes 1 G false x (.t p),none,[],[]⟩::l) s L H:=by
 have y:cL [w]=true:=by simp[cL,h1]
 refine RO.buildSlice ?_ hl y;have hg:aZ H (H.new (.cells (bX [w]) [w].length e true [] 0)):=aZ.new H _;have I:=U.cq hg;have hs:Sl (H.new (.cells (bX [w]) [w].length e true [] 0)) 1 [w] 1 (.slice H.next 0 1 1 true):=(cM.new (H:=H) (e:=e) (size:=1) (n:=1) (vs:=[w]) rfl true true).sl;generalize W:H.new (.cells (bX [w]) [w].length e true [] 0)=f at*;obtain⟨Z,a,_,hu⟩:=I.iJ i hi;obtain⟨j,off,ex,F,m,aM,rfl,Q,O,R,S,T,P⟩:=a;subst Q;have C:(!(dH ((vs.length+1)*bytes)&&dH (vs.length+1)))=false:=by rw[rO hb,rO hn];rfl
 have D:ago (vs.length+1) vs.length=false:=by cases J:ago (vs.length+1) vs.length with|false=>rfl|true=>have:=afx J;omega
 have hrd:eX F m off (vs.length*1)=some vs:=by have:=tO (c:=F) (n:=m) (l:=vs) (o:=off) S T;rw[agU];exact this
 have g:∀j(hj:j<(vs++[w]).length),(bX (vs++[w])).bp .ahp (0+j)=(vs++[w])[j]:=λj hj=>by rw[afC];exact wl hj
 have X:j.am<f.next.am:=P j (abL ..);cases E:ex with
 |true=>subst E;refine RO.append (r:=(.slice f.next 0 (vs.length+1) (vs.length+1) false,f.new (.cells (bX (vs++[w])) ((vs.length+1)*1) e true [] 0))) hs.gh (by simp only[iR,y,afP,abe,bD,D,C,O,hrd,bf]) (h _ _ _ (hu (fp':=[f.next]) (t':=tU e (vs++[w]) _) ⟨(aZ.new f _).nx,λp a=>.inr (by rw[abx]at a;subst a;exact adv _),λp _ a=>(aZ.new f _).cG p a⟩ ⟨f.next,0,false,_,_,[],rfl,aF,by rw[ah.cz,aJ rfl],.inr aF,aF,g,λp a=>by rw[abx]at a;subst a;rw[ah.lU];omega⟩) rfl rfl rfl) (N _) rfl (by show lk (bq L (some p) _) p=_;simp only[bq,lk,af.eS.2 rfl]) rfl
 |false=>
  subst E;have V:m=off+vs.length:=by rcases R with h|h;cases h;exact h
  have z:(true&&afw vs.length vs.length&&afw (off+vs.length*1) m&&afw e e&&ago 0 m)=true:=by rw[V,agU];simp[agB]
  refine RO.append (r:=(.slice f.next 0 (vs.length+1) (vs.length+1) false,(f.set j (.cells F m e false aM 0)).new (.cells (bX (vs++[w])) ((vs.length+1)*1) e true (j::aM) (0 - off)))) hs.gh (by simp only[iR,y,afP,abe,bD,D,C,O,hrd,z,bf]) (h _ _ _ (hu (fp':=f.next::j::aM) (t':=tU e (vs++[w]) _) ⟨by rw[ah.lU,ah.d8];omega,λp a=>?_,λp a Y=>?_⟩ ⟨f.next,0,false,_,_,j::aM,rfl,aF,by rw[ah.cz,ah.d8,aJ rfl,Nat.zero_sub],.inr aF,aF,g,λp a=>?_⟩) rfl rfl rfl) (N _) rfl (by show lk (bq L (some p) _) p=_;simp only[bq,lk,af.eS.2 rfl]) rfl
  .rcases acn.1 a with rfl|a;·exact .inr (adv _)
   exact .inl a
  .rw[ah.cz,ah.d8,ap (bM ab),ah.aC,ap λe:p=j=>a (by rw[e];exact abL ..)]
  rw[ah.lU,ah.d8];rcases acn.1 a with rfl|a;·omega
  have:=P p a;omega
end
section
variable{ac:Nat->aX}{c:Cx}{s:List SI}{L:Kn}{A B H H':ah}{d:Option af}{l:List bA}{ts us:List Th}{q r:af}{e n m o k i cap:Nat}{vs:List AV}{v w sv:AV}{full ex:Bool}
theorem RO.DX(U:aq A H ts)(i:Nat)(f:vs.length=n){a x:aL}(h:∀H',aq A H' (ts.set i (tS e 1 (vs.set k w) n full (.slice q 0 n cap ex)))->RO ac c l s (bq L d .ahp) H')(g:aW L a=.aE q (0+k*1):=by exact cw)(j:aW L x=w:=by exact cw)(hi:ts[i]?=some (tS e 1 vs n full (.slice q 0 n cap ex)):=by rfl)(ho:k<vs.length:=by first|omega|assumption)(p:w.dg=true:=by first|rfl|assumption)(t:w.cells=[w]:=by first|rfl|assumption)(hd:w.bC=true:=by first|rfl|assumption):RO ac c (⟨d,.store 1 a x,none,[],[]⟩::l) s L H:=by have u:vs.map id=vs:=ahi vs;refine RO.kq (f:=id) (zs:=vs) U i w f (λH' b=>h H' ?_) g j (by rw[u];exact hi) ho p t hd;rw[ahi]at b;exact b
end
section
variable{ac:Nat->aX}{c:Cx}{s:List SI}{L:Kn}{A B H H':ah}{d:Option af}{l:List bA}{ts us:List Th}{q r:af}{e n m o k i cap size:Nat}{vs:List AV}{v w sv:AV}{full ex:Bool}
theorem abA{v:AV}{i:af}(h:fA v=some i):v.bC=true:=by cases v<;>first|rfl|cases h
def qO(L:Kn):List af->List (Option af)
 |[]=>[]
 |p::a=>fA (lk L p)::qO L a
theorem AD{aa:ak AV}(f:Le L aa):∀{ps is:List af}{H:ah},qO L ps=is.map some->(cW aa H ps).1.next=H.next/\(∀j,j∉is->(cW aa H ps).1.get j=H.get j)/\∀a,(cH a (cW aa H ps).2).next=a.next/\∀j,(cH a (cW aa H ps).2).get j=if j∈is then H.get j else a.get j
 |[],[],H,_=>⟨rfl,λ_ _=>rfl,λa=>⟨rfl,λj=>by simp[cW,cH]⟩⟩
 |[],_::_,H,h=>by simp[qO]at h
 |_::_,[],H,h=>by simp[qO]at h
 |p::ps,i::is,H,h=>by
  simp only[qO,afp,afM]at h;have g:aa.get .ahp p=lk L p:=f.get rfl (abA h.1);obtain⟨h1,h2,h3⟩:=AD f (ps:=ps) (is:=is) (H:=H.set i .none) h.2;simp only[cW,g,h.1];refine⟨h1,λj hj=>?_,λa=>⟨?_,λj=>?_⟩⟩;·rw[h2 j λt=>hj (aco _ t),ah.aC,ap λe=>hj (by rw[e];exact abL ..)]
  .simp only[cH];exact(h3 a).1
  simp only[cH,ah.aC];by_cases b:j=i;·subst b;simp
  rw[ap b,(h3 a).2];simp only[acn,b,false_or,ah.aC,bD]
theorem Fs.move{A a H H':ah}(b:H'.next=H.next)(g:a.next.am=A.next.am)(hg:∀j,A.next.am<=j.am->H'.get j=H.get j):∀{fs:List (List af)}{ts:List Th},Fs A H fs ts->Fs a H' fs ts|[],[],_=>trivial|[],_::_,h=>h.elim|_::_,[],h=>h.elim|f::fs,t::ts,⟨h1,h2,h3,i⟩=>⟨t.fr h1 (by rw[b];exact adv _) λj hj=>hg j (h2 j hj),λj hj=>by rw[g];exact h2 j hj,h3,Fs.move b g hg i⟩
theorem aq.show{f g h:ah}{is:List af}(a:f.next=H.next)(h0:∀j,j∉is->f.get j=H.get j)(p:∀j∈is,j.am<H.next.am)(b:h.next=g.next)(hu:∀j,h.get j=if j∈is then H.get j else g.get j)(U:aq f g us):aq H h us:=by
 obtain⟨hg,t,u⟩:=U;refine⟨⟨by rw[b,<-a];exact hg.nx,λj hj=>?_⟩,t,u.move b (by rw[a]) λj hj=>?_⟩
 .rw[hu];split;·rfl
  rename_i i;rw[hg.cG j (by rw[a];exact hj),h0 j i]
 rw[hu,ap λi=>?_];have:=p j i;rw[a]at hj;omega
theorem RO.AF{f:aL}{args:List aL}{fv:AV}{t:List AV}{F is:List af}{re:List gE}{Q:AV->List Th->Prop}(U:aq A H ts)(G:∀j∈is,j.am<H.next.am)(p:∀C,C.next=H.next->(∀j,j∉is->C.get j=H.get j)->YF ac fv t C λv b=>∃i,aq C b i/\Q v i)(h:∀v i D,Q v i->aZ H D->aq A D (i++ts)->(∀aa,Le (bq L d v) aa->du aa D re=true)/\RO ac c l s (bq L d v) D)(O:qO L F=is.map some:=by exact cw)(P:aW L f=fv:=by exact cw)(I:fv.bC=true:=by first|rfl|assumption)(S:args.map (aW L)=t:=by rfl)(J:t.all AV.bC=true:=by repeat first|rfl|assumption|(refine ad ?_ ?_)):RO ac c (⟨d,.call f args,none,F,re⟩::l) s L H:=λaa g=>by
 have N:args.map (gv aa)=t:=by subst S;refine agG λx T=>?_;exact g.gv rfl (agn.1 J _ (afI T))
 obtain⟨h1,h2,h3⟩:=AD g (H:=H) O;generalize V:cW aa H F=a at h1 h2 h3;have key:YF ac fv t a.1 λv b=>du (aK aa d v) (cH b a.2) re=true/\∃n,Xo ac n l ⟨aK aa d v,c.M,c.R⟩ (cH b a.2) (iH ac c.K s .none):=by refine(p a.1 h1 h2).mono λv b E=>?_;obtain⟨i,hl,W⟩:=E;obtain⟨X,Y⟩:=h3 b;have y:=hl.show h1 h2 G X Y;obtain⟨Z,h7⟩:=h v i _ W y.gr (U.eO y);exact⟨Z _ (g.set d v),h7 _ (g.set d v)⟩
 obtain⟨n,hn⟩:=key;obtain⟨m,u⟩:=(wi ac n).call (K:=λm v b=>du (aK aa d v) (cH b a.2) re=true/\Xo ac m l ⟨aK aa d v,c.M,c.R⟩ (cH b a.2) (iH ac c.K s .none)) (λm m' v H u h=>⟨h.1,h.2.mono u λ_ _ h=>h⟩) ((mono ac n).call (adv _) (λv b E=>E.2.imp λm u=>⟨E.1,u⟩) hn);refine⟨max n m+1,?_⟩;simp only[Xo,Go.al.az,dc,bf,V];rw[g.gv P I,N];refine(show Xf ac n fv t _ _ from u).mono (Nat.le_max_left ..) λv b z=>?_;rw[aJ z.1];exact(show Xo ac m l _ _ _ from z.2).mono (Nat.le_max_right ..) λ_ _ h=>h
theorem RO.yS{x:aL}{i is:List af}(z:bx H q o=some v)(u:q∉is)(h:∀p,(∀j,p.get j=H.get j)->p.next=H.next->RO ac c l s (bq L d v) p)(C:aW L x=.aE q o:=by exact cw)(D:qO L i=is.map some:=by exact cw):RO ac c (⟨d,.bi x,none,i,[]⟩::l) s L H:=λaa f=>by
 obtain⟨h1,h2,h3⟩:=AD f (H:=H) D;generalize E:cW aa H i=b at h1 h2 h3;obtain⟨F,G⟩:=h3 b.1;have g:∀j,(cH b.1 b.2).get j=H.get j:=λj=>by
  rw[G];split;·rfl
  rename_i t;exact h2 j t
 obtain⟨n,t⟩:=h _ g (F.trans h1) _ (f.set d v);refine⟨n+1,?_⟩;have a:bx b.1 q o=some v:=by simp only[bx,h2 q u];exact z
 have he:aD (.bi x) aa b.1=some (v,b.1):=by
  simp only[aD,f.gv C rfl];unfold bx at a;split at a
  .rename_i cc n _ _ _ _ hg;split at a;·rename_i hb;injection a with a;have y:o<n:=agh.mp hb;simp only[gF,dK,hg,eX,aJ y,a,abe,bD];rfl
   cases a
  cases a
 simp only[Xo,Go.al.az,dc,bf,E,he,du];exact t
theorem aq.ut(U:aq A H ts)(i:Nat)(hi:ts[i]?=some (tB e q vs):=by rfl):A.next.am<=q.am/\q.am<H.next.am:=by obtain⟨f,a,b,_⟩:=U.iJ i hi;exact⟨b q a.1,a.2.2.elim λ_ h=>h.2.2⟩
theorem aq.AG(U:aq A H ts)(i:Nat)(hi:ts[i]?=some (tS e size vs n full (.slice q o m cap ex)):=by rfl):A.next.am<=q.am/\q.am<H.next.am:=by
 obtain⟨g,a,b,_⟩:=U.iJ i hi;have hb:=cM.below a;rcases a with⟨_,_,_,h⟩|⟨j,p,aM,cap,f,rfl,h2,_⟩;·cases h
 injection h2 with h2;subst h2;exact⟨b _ (abL ..),hb _ (abL ..)⟩
end
section
variable[Ov]
section
variable{P:Program}
def aeb(w:World):bS:=⟨λb=>w.heap.size<=b,λ_=>True,λ_=>False,λ_=>False⟩
end
section
variable{P:Program}
def kA(n c:Nat):Value->AV
 |.int k m=>.int (kc k) m
 |.bool b=>.bool b
 |.string t=>.str (t.data.toList.map agW)
 |.slice none 0 0=>.aH
 |.slice (some a) len cap=>if len<=cap then(if cap=0 then(if 0<c then .slice (af.cr n) 0 0 0 true else .b9)else match a with
   |⟨b,off,none⟩=>if b<c then .slice (af.cr (n+b)) off len cap true else .b9
   |_=>.b9)else .b9
 |_=>.b9
def uG(P:Program)(n:Nat)(w:World):aO:=⟨λj=>if j.am<=n then some (j.am - 1,0)else if j.am<=n+w.heap.size then some (j.am - n - 1,0)else none,λb=>match w.heap[b]? with
 |some (.cells cs e _)=>(cs.size,(dZ P e).getD 0)
 |_=>(0,0)⟩
theorem IH{n b:Nat}{w:World}(h:b<w.heap.size):uG P n w (af.cr (n+b))=some (b,0):=by show(if(af.cr (n+b)).am<=n then _ else _)=_;rw[af.jL,ap ab,aJ ab];congr 2;omega
theorem OM{n:Nat}{w:World}(v:Value):VR (uG P n w) (kA n w.heap.size v) v:=by
 unfold kA;split;·simp[VR]
 .simp[VR]
 .simp[VR]
 .simp[VR]
 .rename_i a len cap;split
  .rename_i h1;split
   .rename_i h2;subst h2;split;·rename_i h3;simp only[VR];exact⟨ab,adv _,adv _,λ_=>trivial,0,0,by have:=IH (P:=P) (n:=n) h3;simpa using this,λh=>absurd rfl h,λh=>by cases h⟩
    simp[VR]
   rename_i h2;split
   .rename_i b off;split;·rename_i h3;simp only[VR];exact⟨trivial,h1,adv _,λ_=>trivial,b,0,IH h3,λ_=>by rw[afC],λh=>by cases h⟩
    simp[VR]
   simp[VR]
  simp[VR]
 simp[VR]
def nH(n:Nat)(w:World)(b:Nat):bL:=match w.heap[b]? with
 |some (.cells cs e _)=>.cells (bX (cs.toList.map (kA n w.heap.size))) cs.size e false [] 0
 |_=>.none
def Es(n:Nat)(w:World):Nat->ak bL
 |0=>.aG
 |k+1=>(Es n w k).set .none (af.cr (n+k)) (nH n w k)
def kB(n:Nat)(w:World):ah:=⟨Es n w w.heap.size,af.cr (n+w.heap.size)⟩
theorem ON(n:Nat)(w:World)(j:af):∀k,ak.get bL.none j (Es n w k)=if n<j.am/\j.am<=n+k then nH n w (j.am - n - 1)else .none
 |0=>by rw[ap ab];exact n8 j j
 |k+1=>by
  rw[Es,ak.aC,ON n w j k];have e:j=af.cr (n+k)↔j.am=n+k+1:=⟨λe=>by rw[e,af.jL],λe=>af.pY (by rw[af.jL];exact e)⟩;by_cases h:j.am=n+k+1;·rw[aJ (e.2 h),aJ ab];congr 1;omega
  rw[ap λa=>h (e.1 a)];by_cases h2:n<j.am/\j.am<=n+k;·rw[aJ h2,aJ ab]
  rw[ap h2,ap ab]
theorem OO(n:Nat)(w:World)(j:af):(kB n w).get j=if n<j.am/\j.am<=n+w.heap.size then nH n w (j.am - n - 1)else .none:=ON n w j _
theorem OP{n b:Nat}{w:World}(h:b<w.heap.size):(kB n w).get (af.cr (n+b))=nH n w b:=by rw[OO,af.jL,aJ ab];congr 1;omega
theorem aec{n b:Nat}{w:World}{cs:Array Value}{e:TypeId}{fr:Nat×Nat}(h:w.heap[b]?=some (.cells cs e fr)):OR P (uG P n w) (nH n w b) 0 (.cells cs e fr):=by simp only[nH,h,OR];refine⟨trivial,ab,λi hi=>?_,λh=>by cases h⟩;refine⟨cs[i],by rw[afC,getElem?_pos cs i hi],?_⟩;rw[wl (by simpa using hi)];simp only[agw,Array.getElem_toList];exact OM _
theorem aed{n:Nat}{w:World}(E:P.globals.size=n)(F:n<=w.heap.size):bj P (aeb w) (uG P n w) (kB n w) w:=by
 have hg:=OO n w;have key:∀i,(kB n w).get i≠.none->∃b c e f,i.am=n+b+1/\b<w.heap.size/\w.heap[b]?=some (.cells c e f)/\(kB n w).get i=nH n w b/\uG P n w i=some (b,0):=by
  intro i hi;have r:=hg i;rw[r]at hi;split at hi
  .rename_i h;have hb:i.am - n - 1<w.heap.size:=ab;have p:=hi;unfold nH at p;split at p;·rename_i cs e f z;refine⟨i.am - n - 1,cs,e,f,ab,hb,z,by rw[r,aJ h],?_⟩;rw[show i=af.cr (n+(i.am - n - 1))from af.pY (by rw[af.jL];omega)];have:=IH (P:=P) (n:=n) hb;rw[this,af.jL];congr 2;omega
   exact absurd rfl p
  exact absurd rfl hi
 have l:∀b c e f,w.heap[b]?=some (.cells c e f)->nH n w b=.cells (bX (c.toList.map (kA n w.heap.size))) c.size e false [] 0:=λb c e f h=>by simp only[nH,h]
 have s:∀i j,i∉((kB n w).get j).aM:=λi j h=>by
  by_cases hj:(kB n w).get j=.none;·rw[hj]at h;cases h
  obtain⟨b,c,e,f,_,_,h3,o,_⟩:=key j hj;rw[o,l b c e f h3]at h;cases h
 refine⟨λi hi=>?_,λi j b x y u hi hj a m=>?_,λi j h=>absurd h (s i j),λi b x hi v q=>?_,λi hi=>?_,λk A=>⟨A,trivial⟩,λg h=>?_,λi b x G hi a m=>?_,λi b x q=>?_,λi b x _ _=>trivial,λi h=>h.elim,λi h=>h.elim⟩;·obtain⟨b,c,e,f,_,_,h3,o,t⟩:=key i hi;exact⟨b,0,_,t,h3,by rw[o];exact aec h3⟩
 .exfalso;obtain⟨b1,_,_,_,i1,_,_,_,B⟩:=key i hi;obtain⟨b2,_,_,_,H,_,_,_,C⟩:=key j hj;rw[B]at a;rw[C]at m;injection a with a;injection a with a;injection m with m;injection m with m;exact u (af.pY ab)
 .obtain⟨b1,c,e,f,_,_,h3,o,_⟩:=key i hi;rw[o,l b1 c e f h3]at v;cases v
 .have D:n+w.heap.size+1<=i.am:=by have:(af.cr (n+w.heap.size)).am<=i.am:=hi;rw[af.jL]at this;exact this
  refine⟨by rw[hg,ap ab],?_⟩;show(if i.am<=n then _ else _)=_;rw[ap ab,ap ab]
 .show(if(af.cr g).am<=n then _ else _)=_;rw[af.jL,aJ ab];simp
 .obtain⟨b1,c,e,f,_,_,h3,o,t⟩:=key i hi;rw[t]at a;injection a with a;injection a with a;subst a;rw[h3]at m;injection m with m;subst m;rw[o,l b1 c e f h3];simp only[dI];show(match w.heap[b1]? with|some (.cells cs e _)=>(cs.size,(dZ P e).getD 0)|_=>(0,0))=_;rw[h3]
 have d:(if i.am<=n then some (i.am - 1,0)else if i.am<=n+w.heap.size then some (i.am - n - 1,0)else none)=some (b,x):=q;have:=af.oY i;split at d;·injection d with d;injection d with d;omega
 split at d;·injection d with d;injection d with d;omega
 cases d
end
section
variable{P:Program}{K:Type}{cV:TypeId×Value->K}{w:World}{n:Nat}
def kW(cV:TypeId×Value->K)(P:Program)(w:World)(t:TypeId)(cs:List Value):Prop:=∃fuel x,DataW.trod cV P w 0 (λ_=>true) true fuel t cs=some x
theorem OQ{a:Addr}{v:Value}(h:w.cell? a=some v):∃c e f,a.spot=none/\w.heap[a.block]?=some (.cells c e f)/\c[a.off]?=some v:=by
 unfold World.cell? at h;split at h
 .rename_i c e f b;split at h;·cases h
  rename_i hs;exact⟨c,e,f,by simpa using hs,b,h⟩
 cases h
theorem OS{b off i:Nat}:(⟨b,off,none⟩:Addr).add i=⟨b,off+i,none⟩:=by
 unfold Addr.add;split;·rename_i h;rw[h];rfl
 rfl
theorem OT{c:Type}{Q:Nat->c->Prop}:∀{len:Nat},(∀i,i<len->∃a,Q i a)->∃b:List c,b.length=len/\∀i(h:i<b.length),Q i b[i]
 |0,_=>⟨[],rfl,λi h=>absurd h aF⟩
 |len+1,h=>by
  obtain⟨b,h1,h2⟩:=OT (len:=len) λi hi=>h i ab;obtain⟨a,d⟩:=h len ab;refine⟨b++[a],by simp[h1],λi hi=>?_⟩;by_cases e:i<b.length;·rw[List.getElem_append_left e];exact h2 i e
  have:i=b.length:=by simp at hi;omega
  subst this;rw[List.getElem_append_right (adv _)];simpa[h1]using d
theorem A7{N:Type}{R:ah->N->List AV->Prop}{X:N->Prop}{t e:TypeId}{size:Nat}(ht:P.underlying t=some (.slice e))(A:P.cellsOf e=size)(T:0<size)(hg:∃c e f,w.heap[0]?=some (.cells c e f))(V:∀cs,kW cV P w e cs->∃a:N,R (kB n w) a (cs.map (kA n w.heap.size))/\X a){cs:List Value}(h:kW cV P w t cs):∃v O,cs=[v]/\cP size R (kB n w) O (kA n w.heap.size v)/\∀a∈O,X a:=by
 obtain⟨ax,x,h⟩:=h;obtain⟨c0,e0,f0,B⟩:=hg;have C:0<w.heap.size:=(Array.getElem?_eq_some_iff.1 B).1;rcases DataW.trod_slice ht h with⟨rfl,_⟩|⟨a,len,cap,r,J,m,_,rfl,_,_,D,_,ay,K,s,_⟩;·exact⟨_,[],rfl,⟨[],.inl ⟨rfl,rfl,rfl⟩,λk l=>absurd l aF⟩,λa h=>by cases h⟩
 have E:∀i,i<cap->∃cs,w.cells? 0 (a.add (i*size)) size=some cs/\(i<len->∃y,DataW.trod cV P w 0 (λ_=>true) true m e cs=some y):=λi hi=>by
  by_cases hl:i<len;·have h1:=K i hl;rw[getElem?_pos r i ab,aaU]at h1;obtain⟨cs,h2,h3⟩:=h1;rw[A]at h2;exact⟨cs,h2,λ_=>⟨_,h3⟩⟩
  obtain⟨h0,h1⟩:=s rfl;have h1:=h1 (i - len) ab;rw[getElem?_pos J _ ab,aaU]at h1;obtain⟨cs,h2,_⟩:=h1;rw[A,show len+(i - len)=i by omega]at h2;exact⟨cs,h2,λh=>absurd h hl⟩
 by_cases F:cap=0
 .subst F;obtain rfl:len=0:=ab;refine⟨_,[],rfl,⟨[],?_,λk l=>absurd l aF⟩,λa h=>by cases h⟩;simp only[kA,adv,bf,C];refine .inr ⟨af.cr n,0,0,true,bX (c0.toList.map (kA n w.heap.size)),c0.size,e0,false,[],0,rfl,?_,aF,aF,λj hj=>absurd hj aF,?_,adv _⟩;·have:=OP (n:=n) C;rw[ahc]at this;rw[this];simp only[nH,B]
  show(af.cr n).am<(af.cr (n+w.heap.size)).am;rw[af.jL,af.jL];omega
 obtain⟨W,h1,_⟩:=E 0 ab;obtain⟨_,a1,Y⟩:=World.cells?_some h1;have G:=Y 0 T;rw[getElem?_pos W 0 ab]at G;obtain⟨c,e',f',q,d,g⟩:=OQ G;have Z:(a.add (0*size)).add 0=a:=by rw[Nat.zero_mul];unfold Addr.add;simp
 rw[Z]at q d g;obtain⟨b,off,sp⟩:=a;simp only at q d g;subst q;have bW:b<w.heap.size:=(Array.getElem?_eq_some_iff.1 d).1;have cell:∀i,i<cap->∃cs,cs.length=size/\(∀j(h:j<cs.length),c[off+i*size+j]?=some cs[j])/\(i<len->∃y,DataW.trod cV P w 0 (λ_=>true) true m e cs=some y):=λi hi=>by obtain⟨cs,Q,u⟩:=E i hi;obtain⟨_,z,S⟩:=World.cells?_some Q;refine⟨cs,z,λj hj=>?_,u⟩;have g5:=S j ab;rw[getElem?_pos cs j hj,OS,OS]at g5;obtain⟨c',_,_,_,o,g7⟩:=OQ g5;simp only at o g7;rw[d]at o;injection o with o;injection o with o;subst o;exact g7
 have L:off+len*size<=c.size:=by
  by_cases ag:len=0;·subst ag;have:=(Array.getElem?_eq_some_iff.1 g).1;omega
  obtain⟨cs,Q,u,_⟩:=cell (len - 1) ab;have:=(Array.getElem?_eq_some_iff.1 (u (size - 1) ab)).1;have e:len*size=(len - 1)*size+size:=by conv=>lhs;rw[show len=len - 1+1 by omega,Nat.succ_mul]
  omega
 have M:kA n w.heap.size (.slice (some ⟨b,off,none⟩) len cap)=.slice (af.cr (n+b)) off len cap true:=by simp only[kA,D,F,bW,bf,bD]
 let p:List AV:=(agA (len*size)).map λj=>kA n w.heap.size (c.getD (off+j) default);have H:p.length=len*size:=by simp[p]
 have av:∀i,i<len->∃a:N,R (kB n w) a ((p.drop (i*size)).take size)/\X a:=λi hi=>by
  obtain⟨cs,Q,u,z⟩:=cell i ab;obtain⟨y,z⟩:=z hi;obtain⟨a,r1,r2⟩:=V cs ⟨m,y,z⟩;refine⟨a,?_,r2⟩;suffices e:(p.drop (i*size)).take size=cs.map (kA n w.heap.size)by rw[e];exact r1
  have a2:i*size+size<=len*size:=by rw[<-Nat.succ_mul];exact afN _ hi
  apply List.ext_getElem;·rw[afH,agv,H,afJ,Q];omega
  intro j h1 h2;rw[afJ]at h2;have S:=u j h2;simp only[List.getElem_take,List.getElem_drop,p,agw,List.getElem_range];rw[<-agM,af1,S];rfl
 obtain⟨O,aw,hq⟩:=OT av;refine⟨_,O,rfl,⟨p,?_,λk l=>(hq k l).1⟩,λa ha=>?_⟩
 .rw[M,aw];refine .inr ⟨af.cr (n+b),off,cap,true,bX (c.toList.map (kA n w.heap.size)),c.size,e',false,[],0,rfl,?_,L,H,λj hj=>?_,?_,D⟩;·rw[OP bW];simp only[nH,d]
  .have I:off+j<c.size:=ab;rw[wl (by simpa using I)];simp only[agw,Array.getElem_toList,p,List.getElem_range];rw[af1,getElem?_pos c _ I];rfl
  show(af.cr (n+b)).am<(af.cr (n+w.heap.size)).am;rw[af.jL,af.jL];omega
 obtain⟨k,l,rfl⟩:=afr ha;exact(hq k l).2
end
section
variable{P:Program}{K:Type}{cV:TypeId×Value->K}{w:World}{n:Nat}
def zb(P:Program)(t:TypeId)(l:List (TypeId×Nat)):Prop:=∃fs,P.underlying t=some (.struct fs)/\fs.toList.map (λf=>(f.type,f.offset))=l
theorem A8{t:TypeId}{l:List (TypeId×Nat)}(e:zb P t l){cs:List Value}(h:kW cV P w t cs):cs.length=P.cellsOf t/\∀p∈l,kW cV P w p.1 ((cs.drop p.2).take (P.cellsOf p.1)):=by
 obtain⟨a,g,rfl⟩:=e;obtain⟨d,x,h⟩:=h;obtain⟨j,m,_,_,h1,h2,h3⟩:=DataW.trod_struct g h;refine⟨h1,λp k=>?_⟩;obtain⟨f,b,rfl⟩:=afE.1 k;obtain⟨i,hi,rfl⟩:=afr b;have c:i<a.size:=by simpa using hi
 have:=h3 i a[i] (getElem?_pos a i c);rw[getElem?_pos j i ab]at this;exact⟨m,_,this⟩
structure OU(P:Program)where
 i:TypeId
 u:TypeId
 s:TypeId
 is:TypeId
 us:TypeId
 e:TypeId
 es:TypeId
 st:TypeId
 A9:TypeId
 j:TypeId
 b:TypeId
 bs:TypeId
 g:TypeId
 hi:P.underlying i=some (.int .i64)
 hu:P.underlying u=some (.int .u8)
 hs:P.underlying s=some .string
 dB:P.underlying is=some (.slice i)
 BX:P.underlying us=some (.slice u)
 gI:P.underlying es=some (.slice e)
 OV:P.underlying A9=some (.slice st)
 bW:P.underlying bs=some (.slice b)
 he:zb P e [(i,0),(is,1)]
 cD:zb P st [(u,0),(i,1),(is,2),(i,3),(i,4),(s,5)]
 hj:zb P j [(u,0),(is,1),(s,2),(us,3),(es,4)]
 hb:zb P b [(is,0),(A9,1),(j,2)]
 hg:zb P g [(s,0),(i,1),(i,2),(bs,3)]
 ci:P.cellsOf i=1
 cu:P.cellsOf u=1
 cs:P.cellsOf s=1
 Ba:P.cellsOf is=1
 OW:P.cellsOf us=1
 bk:P.cellsOf es=1
 OX:P.cellsOf A9=1
 OY:P.cellsOf bs=1
 ce:P.cellsOf e=2
 II:P.cellsOf st=6
 cj:P.cellsOf j=5
 cb:P.cellsOf b=7
 cg:P.cellsOf g=4
abbrev AW(n:Nat)(w:World)(cs:List Value):List AV:=cs.map (kA n w.heap.size)
theorem cP.OZ{g:Type}{f:g->AV}{H:ah}{c:List g}{v:AV}(h:cP 1 (λ_ a cs=>cs=[f a]) H c v):Sl H 1 (c.map f) c.length v:=by
 obtain⟨i,h1,h2⟩:=h;have hl:=h1.length;have e:i=c.map f:=by apply List.ext_getElem (by rw[hl,afJ];omega);intro k d b;rw[afJ]at b;have:=h2 k b;rw[agU,afv d]at this;simp only[agN,agI,afM,and_true]at this;rw[agw,this]
 rw[<-e];exact h1
variable(Y:OU P)
section
variable{Y}
theorem uH{cs:List Value}(h:kW cV P w Y.i cs):∃m:Int,AW n w cs=[aI m]:=by obtain⟨a,x,h⟩:=h;obtain⟨m,rfl,_⟩:=DataW.trod_int Y.hi h;exact⟨m,rfl⟩
theorem IJ{cs:List Value}(h:kW cV P w Y.u cs):∃m:Nat,AW n w cs=[aU m]/\m<256:=by obtain⟨b,x,h⟩:=h;obtain⟨m,rfl,_,a⟩:=DataW.trod_int Y.hu h;simp only[Lit.wf,ae9,decide_eq_true_eq]at a;obtain⟨m,rfl⟩:∃k:Nat,m=k:=⟨m.toNat,by have:(0:Int)<=m:=a.1;omega⟩;exact⟨m,rfl,by have:(m:Int)<=255:=a.2;omega⟩
theorem IK{cs:List Value}(h:kW cV P w Y.s cs):∃t:List Nat,AW n w cs=[.str t]/\∀c∈t,c<256:=by obtain⟨a,x,h⟩:=h;obtain⟨t,rfl,_⟩:=DataW.trod_string Y.hs h;exact⟨_,rfl,λc d=>by obtain⟨b,_,rfl⟩:=afE.1 d;exact b.toNat_lt⟩
variable(hg:∃c e f,w.heap[0]?=some (.cells c e f))
include hg
theorem Et{cs:List Value}(h:kW cV P w Y.is cs):∃(v:AV)(l:List Int),AW n w cs=[v]/\eU (kB n w) l v:=by obtain⟨v,a,rfl,h1,_⟩:=A7 (n:=n) (R:=λ_(m:Int)cs=>cs=[aI m]) (X:=λ_=>True) Y.dB Y.ci ab hg (λcs h=>by obtain⟨m,e⟩:=uH (Y:=Y) (n:=n) h;exact⟨m,e,trivial⟩) h;exact⟨_,a,rfl,cP.OZ h1⟩
theorem aee{cs:List Value}(h:kW cV P w Y.us cs):∃(v:AV)(l:List Nat),AW n w cs=[v]/\G0 (kB n w) l v/\∀c∈l,c<256:=by obtain⟨v,a,rfl,h1,h2⟩:=A7 (n:=n) (R:=λ_(m:Nat)cs=>cs=[aU m]) (X:=λc=>c<256) Y.BX Y.cu ab hg (λcs h=>by obtain⟨m,e,b⟩:=IJ (Y:=Y) (n:=n) h;exact⟨m,e,b⟩) h;exact⟨_,a,rfl,cP.OZ h1,h2⟩
theorem aef{cs:List Value}(h:kW cV P w Y.e cs):∃g:G.Edge,oz (kB n w) g (AW n w cs):=by obtain⟨hl,a⟩:=A8 Y.he h;rw[Y.ce]at hl;match cs,hl with|[c0,c1],_=>have b:=a (Y.i,0) aF;have c:=a (Y.is,1) aF;simp only[Y.ci,Y.Ba]at b c;obtain⟨m,d⟩:=uH (Y:=Y) (n:=n) b;obtain⟨v,l,f,h1⟩:=Et (Y:=Y) (n:=n) hg c;simp only[ahd,agN,agI,afp,agu,ag4,afM,and_true]at d f;exact⟨⟨m,l⟩,v,by simp[d,f],h1⟩
theorem aeg{cs:List Value}(h:kW cV P w Y.st cs):∃C:G.d9,oB (kB n w) C (AW n w cs)/\∀c∈C.i7,c<256:=by obtain⟨hl,a⟩:=A8 Y.cD h;rw[Y.II]at hl;match cs,hl with|[c0,c1,c2,c3,c4,c5],_=>have b:=a (Y.u,0) aF;have d:=a (Y.i,1) aF;have e:=a (Y.is,2) aF;have f:=a (Y.i,3) aF;have g:=a (Y.i,4) aF;have j:=a (Y.s,5) aF;simp only[Y.ci,Y.Ba,Y.cu,Y.cs]at b d e f g j;obtain⟨x,k,_⟩:=IJ (Y:=Y) (n:=n) b;obtain⟨y,m⟩:=uH (Y:=Y) (n:=n) d;obtain⟨v,l,o,h2⟩:=Et (Y:=Y) (n:=n) hg e;obtain⟨z,p⟩:=uH (Y:=Y) (n:=n) f;obtain⟨A,q⟩:=uH (Y:=Y) (n:=n) g;obtain⟨t,r,B⟩:=IK (Y:=Y) (n:=n) j;simp only[ahd,agN,agI,afp,agu,ag4,afM,and_true]at k m o p q r;exact⟨⟨x,y,l,z,A,t⟩,⟨v,by simp[k,m,o,p,q,r],h2⟩,B⟩
theorem aeh{cs:List Value}(h:kW cV P w Y.j cs):∃j:G.fg,py (kB n w) j (AW n w cs)/\(∀c∈j.i7,c<256)/\∀c∈j.bu,c<256:=by obtain⟨hl,a⟩:=A8 Y.hj h;rw[Y.cj]at hl;match cs,hl with|[c0,c1,c2,c3,c4],_=>have d:=a (Y.u,0) aF;have f:=a (Y.is,1) aF;have g:=a (Y.s,2) aF;have i:=a (Y.us,3) aF;have k:=a (Y.es,4) aF;simp only[Y.Ba,Y.cu,Y.cs,Y.OW,Y.bk]at d f g i k;obtain⟨r,l,_⟩:=IJ (Y:=Y) (n:=n) d;obtain⟨v,x,m,h1⟩:=Et (Y:=Y) (n:=n) hg f;obtain⟨t,o,h2⟩:=IK (Y:=Y) (n:=n) g;obtain⟨v3,y,p,h3,b⟩:=aee (Y:=Y) (n:=n) hg i;obtain⟨v4,z,q,A,_⟩:=A7 (n:=n) (R:=oz) (X:=λ_=>True) Y.gI Y.ce ab hg (λcs h=>by obtain⟨e,h⟩:=aef (Y:=Y) (n:=n) hg h;exact⟨e,h,trivial⟩) k;simp only[ahd,agN,agI,afp,agu,ag4,afM,and_true]at l m o p q;subst q;exact⟨⟨r,x,t,y,z⟩,⟨v,v3,kA n w.heap.size c4,by simp[l,m,o,p],h1,h3,A⟩,h2,b⟩
structure IL(b:G.dW):Prop where
 st:∀s∈b.aS,∀c∈s.i7,c<256
 fn:∀c∈b.aB.i7,c<256
 kd:∀c∈b.aB.bu,c<256
theorem aei{cs:List Value}(h:kW cV P w Y.b cs):∃r:G.dW,ji (kB n w) r (AW n w cs)/\IL r:=by obtain⟨hl,a⟩:=A8 Y.hb h;rw[Y.cb]at hl;match cs,hl with|[c0,c1,c2,c3,c4,c5,c6],_=>have g:=a (Y.is,0) aF;have i:=a (Y.A9,1) aF;have k:=a (Y.j,2) aF;simp only[Y.Ba,Y.OX,Y.cj]at g i k;obtain⟨v0,o,l,h0⟩:=Et (Y:=Y) (n:=n) hg g;obtain⟨q,p,m,h1,d⟩:=A7 (n:=n) (R:=oB) (X:=λs=>∀c∈s.i7,c<256) Y.OV Y.II ab hg (λcs h=>aeg (Y:=Y) (n:=n) hg h) i;obtain⟨j,h2,e,f⟩:=aeh (Y:=Y) (n:=n) hg k;simp only[ahd,agN,agI,afp,agu,ag4,afM,and_true]at l m h2;subst m;exact⟨⟨o,p,j⟩,⟨v0,kA n w.heap.size c1,_,by simp[l],h0,h1,h2⟩,d,e,f⟩
structure O9(g:G.be):Prop where
 nm:∀c∈g.i7,c<256
 bl:∀b∈g.aj,IL b
theorem aej{cs:List Value}(h:kW cV P w Y.g cs):∃r:G.be,gu (kB n w) r (AW n w cs)/\O9 r:=by obtain⟨hl,a⟩:=A8 Y.hg h;rw[Y.cg]at hl;match cs,hl with|[c0,c1,c2,c3],_=>have c:=a (Y.s,0) aF;have d:=a (Y.i,1) aF;have e:=a (Y.i,2) aF;have f:=a (Y.bs,3) aF;simp only[Y.cs,Y.ci,Y.OY]at c d e f;obtain⟨t,j,h0⟩:=IK (Y:=Y) (n:=n) c;obtain⟨o,k⟩:=uH (Y:=Y) (n:=n) d;obtain⟨p,l⟩:=uH (Y:=Y) (n:=n) e;obtain⟨v3,q,m,h3,b⟩:=A7 (n:=n) (R:=ji) (X:=IL) Y.bW Y.cb ab hg (λcs h=>aei (Y:=Y) (n:=n) hg h) f;simp only[ahd,agN,agI,afp,agu,ag4,afM,and_true]at j k l m;subst m;exact⟨⟨t,o,p,q⟩,⟨kA n w.heap.size c3,by simp[j,k,l],h3⟩,h0,b⟩
end
end
end
end Go.al
end
