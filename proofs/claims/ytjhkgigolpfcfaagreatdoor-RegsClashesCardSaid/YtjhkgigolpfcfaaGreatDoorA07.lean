/- A part of the proof. No conditions. -/
import Derived.Test.YtjhkgigolpfcfaaGreatDoorA06
set_option linter.all false
open Option renaming map_eq_some_iff→afi,map_some→ahb,getD_some→ahs
open List renaming mem_singleton→ac3,mem_cons_self→adc,mem_cons→adC,mem_cons_of_mem→adD,getElem_mem→af0,replicate→af3,drop_eq_getElem_cons→agR,getElem?_map→ahc,length_cons→ahh,length_take→ahl,getElem?_eq_some_iff→ahv,cons_append→ahC,length_replicate→ahM,take_length→ah2
open Bool renaming false_eq_true→ac6,and_eq_true→agM,not_true→ag9,not_eq_true'→ahA,and_self→aiq
open Nat renaming eq_of_beq_eq_true→agO,beq→agQ,le_of_ble_eq_true→agT,zero_add→agW,lt_of_lt_of_le→ag6,blt→aha,blt_eq→ahF,beq_refl→ahQ,add_assoc→ah3,mul_one→ah9
open Int renaming toNat_natCast→agK
open List.cons renaming injEq→ag4
open Array renaming getElem?_toList→ahP
open Eq renaming mpr→aiu
noncomputable section
namespace Go.ak.R
abbrev Hf:=292
abbrev dM:=56
abbrev l7:=161
abbrev fC:=24
abbrev vG:=257
abbrev gp:=42
abbrev xj:=217
abbrev mV:=260
abbrev sH:=54
abbrev pV:=58
abbrev xk:=64
abbrev Hg:=255
abbrev Hh:=252
abbrev MW:=256
abbrev Ve:=246
abbrev Vf:=194
abbrev Vg:=195
abbrev Vh:=61
abbrev Vi:=78
abbrev lF:=72
abbrev MX:=168
abbrev Hi:=123
abbrev fV:=82
abbrev pW:=79
abbrev MY:=197
abbrev vH:=196
abbrev mW:=139
abbrev Hj:=135
abbrev zF:=86
abbrev DK:=232
abbrev mX:=234
abbrev Hk:=177
abbrev MZ:=50
def p0:ac:=.xH
def p1:ac:=.xO p0
def p2:ac:=.xI p0
def p3:ac:=.xO p1
def p4:ac:=.xI p1
def p5:ac:=.xO p2
def p6:ac:=.xI p2
def p7:ac:=.xO p3
def p8:ac:=.xI p3
def p9:ac:=.xO p4
def aO:ac:=.xI p4
def aQ:ac:=.xO p5
def aZ:ac:=.xI p5
def aX:ac:=.xO p6
def bj:ac:=.xI p6
def bk:ac:=.xO p7
def bo:ac:=.xI p7
def aY:ac:=.xO p8
def bw:ac:=.xI p8
def bJ:ac:=.xO p9
def bP:ac:=.xI p9
def bQ:ac:=.xO aO
def bM:ac:=.xI aO
def bI:ac:=.xO aQ
def bG:ac:=.xI aQ
def bR:ac:=.xO aZ
def b8:ac:=.xI aZ
def bV:ac:=.xO aX
def cC:ac:=.xI aX
def ct:ac:=.xO bj
def b7:ac:=.xI bj
def cQ:ac:=.xO bk
def cR:ac:=.xI bk
def cD:ac:=.xO bo
def cY:ac:=.xI bo
def cB:ac:=.xO aY
def bZ:ac:=.xI aY
def dc:ac:=.xO bw
def db:ac:=.xI bw
def di:ac:=.xO bJ
def du:ac:=.xI bJ
def dg:ac:=.xO bP
def cS:ac:=.xI bP
def de:ac:=.xO bQ
def dw:ac:=.xI bQ
def dC:ac:=.xO bM
def dh:ac:=.xI bM
def cK:ac:=.xO bI
def dD:ac:=.xI bI
def dN:ac:=.xO bG
def dT:ac:=.xI bG
def ey:ac:=.xO bR
def dp:ac:=.xI bR
def cU:ac:=.xO b8
def dX:ac:=.xI b8
def eC:ac:=.xO bV
def dU:ac:=.xI bV
def eP:ac:=.xO cC
def dY:ac:=.xI cC
def ef:ac:=.xO ct
def eQ:ac:=.xI ct
def eg:ac:=.xO b7
def eD:ac:=.xI b7
def ff:ac:=.xO cQ
def fw:ac:=.xI cQ
def eR:ac:=.xO cR
def eI:ac:=.xI cR
def gu:ac:=.xO cD
def eh:ac:=.xI cD
def fH:ac:=.xO cY
def fI:ac:=.xI cY
def fW:ac:=.xO cB
def fP:ac:=.xI cB
def eZ:ac:=.xO bZ
def fX:ac:=.xI bZ
def fg:ac:=.xO dc
def gN:ac:=.xI dc
def fY:ac:=.xO db
def gX:ac:=.xI db
def fJ:ac:=.xO di
def iz:ac:=.xI di
def iA:ac:=.xO du
def ic:ac:=.xI du
def io:ac:=.xO dg
def iE:ac:=.xI dg
def jE:ac:=.xO cS
def iX:ac:=.xI cS
def jY:ac:=.xO de
def iY:ac:=.xI de
def k7:ac:=.xO dw
def mq:ac:=.xI dw
def kL:ac:=.xO dC
def lb:ac:=.xI dC
def jF:ac:=.xO dh
def ki:ac:=.xI dh
def kj:ac:=.xO cK
def mY:ac:=.xI cK
def mZ:ac:=.xO dD
def lf:ac:=.xI dD
def m8:ac:=.xO dN
def po:ac:=.xI dN
def pX:ac:=.xO dT
def nW:ac:=.xI dT
def oI:ac:=.xO ey
def lg:ac:=.xI ey
def jh:ac:=.xO dp
def mr:ac:=.xI dp
def oJ:ac:=.xO cU
def mu:ac:=.xI cU
def pp:ac:=.xO dX
def lG:ac:=.xI dX
def oK:ac:=.xO eC
def oM:ac:=.xI eC
def lH:ac:=.xO dU
def l8:ac:=.xI dU
def lh:ac:=.xO eP
def nX:ac:=.xI eP
def pY:ac:=.xO dY
def m9:ac:=.xI dY
def pq:ac:=.xO ef
def pZ:ac:=.xI ef
def qf:ac:=.xO eQ
def pt:ac:=.xI eQ
def sI:ac:=.xO eg
def ul:ac:=.xI eg
def qh:ac:=.xO eD
def li:ac:=.xI eD
def um:ac:=.xO ff
def sJ:ac:=.xI ff
def qi:ac:=.xO fw
def sK:ac:=.xI fw
def rm:ac:=.xO eR
def xl:ac:=.xI eR
def uo:ac:=.xO eI
def oN:ac:=.xI eI
def vI:ac:=.xO gu
def zG:ac:=.xI gu
def zH:ac:=.xO eh
def uq:ac:=.xI eh
def Bp:ac:=.xO fH
def DL:ac:=.xI fH
def Bq:ac:=.xO fI
def zI:ac:=.xI fI
def Br:ac:=.xO fW
def Hl:ac:=.xI fW
def vJ:ac:=.xO fP
def DM:ac:=.xI fP
def Bs:ac:=.xO eZ
def Hm:ac:=.xI eZ
def sL:ac:=.xO fX
def Bt:ac:=.xI fX
def Bu:ac:=.xO fg
def Hn:ac:=.xI fg
def Ho:ac:=.xO gN
def Bv:ac:=.xI gN
def DN:ac:=.xO fY
def DO:ac:=.xI fY
def DP:ac:=.xO gX
def Hp:ac:=.xI gX
def M0:ac:=.xO fJ
def Hq:ac:=.xI fJ
def Hr:ac:=.xO iz
def Bw:ac:=.xI iz
def vK:ac:=.xO iA
def vL:ac:=.xI iA
def DQ:ac:=.xO ic
def Bx:ac:=.xI ic
def DR:ac:=.xO io
def Hu:ac:=.xI io
def xm:ac:=.xO iE
def DS:ac:=.xI iE
def DT:ac:=.xO jE
def xn:ac:=.xI jE
def DU:ac:=.xO iX
def DV:ac:=.xI iX
def Hv:ac:=.xO jY
def DW:ac:=.xI jY
def DX:ac:=.xO iY
def qj:ac:=.xI iY
def DY:ac:=.xO k7
def By:ac:=.xI k7
def M5:ac:=.xO mq
def Bz:ac:=.xI mq
def M6:ac:=.xO kL
def Hw:ac:=.xI kL
def Hy:ac:=.xO lb
def M7:ac:=.xI lb
def qk:ac:=.xO jF
def M8:ac:=.xI jF
def M9:ac:=.xO ki
def DZ:ac:=.xI ki
def M':ac:=.xO kj
def Na:ac:=.xI kj
def Nb:ac:=.xO mY
def Nc:ac:=.xI mY
def Nf:ac:=.xO mZ
def Hz:ac:=.xI mZ
def Ng:ac:=.xO lf
def Nh:ac:=.xI lf
abbrev Vj:=7
abbrev Vk:=9
abbrev Ni:=10
abbrev Vl:=11
abbrev Vm:=13
abbrev Vn:=18
abbrev Vo:=23
abbrev Vp:=26
abbrev Vq:=28
abbrev Vr:=29
abbrev Vs:=33
abbrev Vt:=34
abbrev Vu:=37
abbrev Vv:=39
abbrev Vw:=40
abbrev Vx:=41
abbrev Vy:=42
abbrev Vz:=45
abbrev VA:=50
abbrev VB:=51
abbrev Nj:=52
abbrev VC:=53
abbrev VD:=59
abbrev VE:=60
abbrev VF:=61
abbrev VG:=68
abbrev VH:=73
abbrev VI:=74
abbrev VJ:=75
abbrev VK:=77
abbrev Nk:=78
abbrev VL:=82
abbrev VM:=83
abbrev VN:=84
abbrev VO:=85
abbrev HD:=88
abbrev VP:=89
abbrev VQ:=91
abbrev VS:=96
abbrev VT:=113
abbrev VU:=114
abbrev VV:=115
abbrev VW:=116
abbrev D0:=117
abbrev VX:=118
abbrev VY:=119
abbrev VZ:=121
abbrev V0:=122
abbrev V1:=124
abbrev V2:=125
abbrev V3:=126
abbrev V4:=127
abbrev V5:=128
abbrev V6:=129
abbrev V7:=131
abbrev V8:=140
abbrev V9:=141
abbrev V':=142
abbrev Wa:=143
abbrev Wb:=145
abbrev Wc:=146
abbrev Wd:=147
abbrev We:=149
abbrev Wf:=151
abbrev Wg:=171
abbrev Wh:=172
abbrev Nl:=173
abbrev Wi:=174
abbrev Wj:=175
abbrev Wk:=176
abbrev Wl:=177
abbrev HG:=178
abbrev Wm:=180
abbrev Wn:=181
abbrev Wo:=182
abbrev Nn:=191
abbrev No:=192
abbrev Np:=193
abbrev HH:=194
abbrev Wp:=195
abbrev HI:=196
abbrev Wq:=197
abbrev Ws:=198
abbrev HJ:=199
abbrev Nq:=200
abbrev Wt:=201
abbrev Wu:=202
abbrev Wv:=203
abbrev Ww:=204
abbrev D1:=205
abbrev Wx:=206
abbrev D3:=207
abbrev D4:=208
abbrev Wy:=209
abbrev Wz:=214
abbrev WA:=215
abbrev WB:=219
abbrev HK:=220
abbrev Nr:=221
abbrev WC:=222
abbrev WD:=223
abbrev WE:=226
abbrev WF:=227
abbrev WG:=228
abbrev WH:=229
abbrev WI:=230
abbrev WJ:=232
abbrev WK:=233
abbrev Nt:=234
abbrev WL:=235
abbrev WM:=236
abbrev WN:=238
abbrev WO:=239
abbrev Nu:=240
abbrev WP:=241
abbrev WQ:=242
abbrev WR:=243
abbrev HL:=244
abbrev WS:=245
abbrev WT:=247
abbrev Nv:=254
abbrev Nw:=38
namespace Y
abbrev m(d a:ac):=O d (.bg (T a))
abbrev l(d a:ac):=O d (.aW (T a))
abbrev a(d:ac)(n:Nat)(a:ac):=O d (.jM n (T a))
abbrev x(d:ac)(n:Nat)(a b:ac):=O d (.dk n (T a) (T b))
abbrev s(n:Nat)(a b:ac):=N (.store n (T a) (T b))
abbrev k(d:ac)(n:Nat):=O d (.bg (I 3 n))
abbrev z(d a:ac):=O d (.jN (T a))
abbrev e(d a:ac)(n:Nat):=O d (.arith .eql 3 (T a) (I 3 n))
abbrev eu(d a:ac)(n:Nat):=O d (.arith .eql 2 (T a) (I 2 n))
abbrev f(d:ac):=O d (.bg (C (.bool false)))
abbrev kl(d:ac):=O d (.bg (C (.bool true)))
abbrev ld(d:ac)(n:Nat)(a:ac):=O d (.fZ n (T a))
abbrev gm(d a g:ac)(b:Bool):=G d (.bg (T a)) g b
abbrev gl(d a g:ac)(b:Bool):=G d (.aW (T a)) g b
abbrev ga(d:ac)(n:Nat)(a g:ac)(b:Bool):=G d (.jM n (T a)) g b
abbrev u(d a b:ac):=O d (.arith .lss 3 (T a) (T b))
abbrev pl(d a:ac)(n:Nat):=O d (.arith .add 3 (T a) (I 3 n))
abbrev b(d:ac)(n:Nat)(a:ac):=O d (.box n (T a))
abbrev o(d a b:ac):=O d (.pick (T a) (C (.bool true)) (T b))
abbrev y(d a b:ac):=O d (.pick (T a) (T b) (C (.bool false)))
abbrev no(d a:ac):=O d (.unary .not (T a))
abbrev c(d:ac)(n:Nat)(l:List aG):=O d (.call (C (.func n [] [])) l)
abbrev ex(d a:ac)(n:Nat):=O d (.extract (T a) n)
abbrev nc(d a:ac):=O d (.nilCheck (T a))
abbrev nl(d:ac):=O d (.bg (C .aP))
abbrev cT:=C (.bool true)
abbrev cF:=C (.bool false)
abbrev cN:=C .aP
abbrev r:=bp.region
abbrev S:=bp.seq
abbrev H:=bp.cond
abbrev Bl:=bp.block
abbrev Lp:=bp.loop
abbrev X:=bp.exit
abbrev q(l:List aS)(x:bp):bp:=.seq (.region l) x
abbrev t1:=T p1
abbrev t2:=T p2
abbrev t3:=T p3
abbrev t4:=T p4
abbrev t5:=T p5
abbrev t6:=T p6
abbrev t7:=T p7
abbrev t8:=T p8
abbrev t9:=T p9
abbrev fi:=T aO
abbrev kM:=T aQ
abbrev km:=T aZ
abbrev lI:=T aX
abbrev jn:=T bj
abbrev l9:=T bk
abbrev jZ:=T bo
abbrev jo:=T aY
abbrev jp:=T bw
abbrev nY:=T bJ
abbrev kN:=T bP
abbrev ql:=T bQ
abbrev na:=T bM
abbrev mw:=T bI
abbrev rp:=T bG
abbrev ur:=T bR
abbrev nf:=T b8
abbrev rq:=T bV
abbrev t28:=T cC
abbrev nZ:=T ct
abbrev vM:=T b7
abbrev my:=T cQ
abbrev sM:=T cR
abbrev rr:=T cD
abbrev pu:=T cY
abbrev ru:=T cB
abbrev xp:=T bZ
abbrev n6:=T dc
abbrev sN:=T db
abbrev rA:=T di
abbrev sO:=T du
abbrev px:=T dg
abbrev BA:=T cS
abbrev vN:=T de
abbrev py:=T dw
abbrev ut:=T dC
abbrev t46:=T dh
abbrev uu:=T cK
abbrev uv:=T dD
abbrev vO:=T dN
abbrev BB:=T dT
abbrev t51:=T ey
abbrev zJ:=T dp
abbrev t53:=T cU
abbrev sP:=T dX
abbrev BC:=T eC
abbrev BD:=T dU
abbrev uw:=T eP
abbrev rB:=T dY
abbrev xu:=T ef
abbrev sQ:=T eQ
abbrev BE:=T eg
abbrev xw:=T eD
abbrev zK:=T ff
abbrev zL:=T fw
abbrev BF:=T eR
abbrev BG:=T eI
abbrev zM:=T gu
abbrev zN:=T eh
abbrev xx:=T fH
abbrev sR:=T fI
abbrev vP:=T fW
abbrev xy:=T fP
abbrev BH:=T eZ
abbrev xz:=T fX
abbrev zO:=T fg
abbrev HM:=T gN
abbrev BI:=T fY
abbrev zP:=T gX
abbrev HN:=T fJ
abbrev zQ:=T iz
abbrev BJ:=T iA
abbrev HO:=T ic
abbrev Nx:=T io
abbrev WU:=T iE
abbrev D5:=T jE
abbrev HP:=T iX
abbrev t87:=T jY
abbrev D6:=T iY
abbrev Ny:=T k7
abbrev D7:=T mq
abbrev D8:=T kL
abbrev HQ:=T lb
abbrev Nz:=T jF
abbrev WV:=T ki
abbrev NA:=T kj
abbrev HR:=T mY
abbrev WW:=T mZ
abbrev WX:=T lf
abbrev WY:=T m8
abbrev WZ:=T po
abbrev D9:=T pX
abbrev NB:=T nW
abbrev HS:=T oI
abbrev HT:=T lg
abbrev W0:=T mr
abbrev W1:=T oJ
abbrev W2:=T mu
abbrev agf:=T pp
abbrev HV:=T lG
abbrev HW:=T oK
abbrev NC:=T oM
abbrev ND:=T lH
abbrev W3:=T l8
abbrev NE:=T lh
abbrev NF:=T nX
abbrev W4:=T pY
abbrev W5:=T m9
abbrev W6:=T pq
abbrev W7:=T pZ
abbrev NG:=T qf
abbrev NH:=T pt
abbrev agh:=T sI
abbrev NI:=T ul
abbrev W8:=T qh
abbrev W9:=T li
abbrev NJ:=T um
abbrev NK:=T sJ
abbrev HZ:=T qi
abbrev Ic:=T sK
abbrev t131:=T rm
abbrev Ie:=T xl
abbrev Xa:=T oN
abbrev Xb:=T vI
abbrev If:=T zG
abbrev Xd:=T zH
abbrev NL:=T uq
abbrev agi:=T Bp
abbrev agj:=T DL
abbrev agk:=T Bq
abbrev Xe:=T zI
abbrev Xg:=T Br
abbrev Xh:=T vJ
abbrev agl:=T DM
abbrev agm:=T Bs
abbrev agn:=T sL
abbrev ago:=T Bt
abbrev agp:=T Bu
abbrev Xi:=T Hn
abbrev agq:=T Bv
abbrev agr:=T DN
abbrev Xj:=T DP
abbrev ags:=T Bw
abbrev agt:=T DQ
abbrev agu:=T Bx
abbrev Xk:=T DR
abbrev NM:=T xm
abbrev Xl:=T DS
abbrev Xm:=T DT
abbrev agv:=T xn
abbrev agw:=T DU
abbrev agx:=T DV
abbrev Xn:=T Hv
abbrev agy:=T qj
abbrev agz:=T DY
abbrev agA:=T By
abbrev t182:=T Bz
abbrev t183:=T M6
abbrev agB:=T Hw
abbrev agC:=T Hy
abbrev agD:=T qk
abbrev Xp:=T M8
abbrev Xq:=T M9
abbrev agE:=T DZ
abbrev Xr:=T M'
abbrev Xs:=T Na
abbrev Xt:=T Nb
abbrev Xu:=T Nc
abbrev Xv:=T Nf
abbrev agF:=T Hz
abbrev Xw:=T Nh
abbrev i0:=I 3 0
abbrev i1:=I 3 1
abbrev i2:=I 3 2
abbrev i3:=I 3 3
abbrev i4:=I 3 4
abbrev i5:=I 3 5
abbrev i6:=I 3 6
abbrev i7:=I 3 7
abbrev i8:=I 3 8
abbrev v0:=Go.ak.i 3 0
abbrev K0(b:ac)(a:Nat)(c:ac)(d:Nat):aS:=O b (.arith .eql a (T c) (I a d))
abbrev K1(a:ac):aS:=O a (.alloc 56 [.aP,.aP,(i 4 0),.aP,(.aC []),.aP,.aP])
abbrev K2(a:ac)(b:ac)(c:Nat)(d:Nat)(e:Nat):aS:=O a (.il .eql (T b) (C (.aC [c,d,e])))
abbrev K3(a:ac)(b:ac)(c:ac):aS:=gl a b c false
abbrev K4(a:ac)(b:ac)(c:ac):aS:=O a (.append 3 8 1 [v0] false (T b) (T c))
abbrev K5(a:ac)(b:Nat)(c:ac)(d:ac):aS:=ga a b c d false
abbrev K6(a:ac)(b:ac):aS:=O a (.arith .sub 3 (T b) i1)
abbrev K7(a:ac)(b:ac)(c:ac):aS:=gm a b c true
abbrev K8(a:ac)(b:ac)(c:Nat)(d:Nat)(e:Nat)(f:Nat):aS:=O a (.il .eql (T b) (C (.aC [c,d,e,f])))
abbrev K9(a:ac)(b:Nat)(c:Nat)(d:ac):aS:=N (.ju .int (T a) (I b c) (T d))
abbrev pz(a:ac)(b:ac):aS:=O a (.buildSlice 3 1 [v0] [(0,1,(T b))])
abbrev ng(b:ac)(a:Nat)(c:ac)(d:Nat)(e:ac):aS:=G b (.arith .gtr a (T c) (I a d)) e false
abbrev BK(a:ac)(b:ac)(c:ac):aS:=gl a b c true
abbrev ez(a:ac)(b:ac)(c:ac):aS:=gm a b c false
abbrev ma(a:ac)(b:ac)(c:ac):aS:=G a (.unary .not (T b)) c false
abbrev Ea(a:ac)(b:Nat)(c:ac)(d:ac):aS:=ga a b c d true
abbrev oO(a:ac)(b:Nat):aS:=O a (.alloc b [.aP])
abbrev kO(a:ac)(b:ac)(c:ac):aS:=G a (.jN (T b)) c true
abbrev oP(a:ac)(b:ac):aS:=O a (.arith .geq 3 (T b) i0)
abbrev sS(a:ac):aS:=O a (.buildSlice 3 0 [v0] [])
abbrev mz(a:ac)(b:ac)(c:ac):aS:=G a (.jN (T b)) c false
abbrev vQ(a:ac)(b:Nat)(c:ac)(d:ac)(e:ac):aS:=G a (.call (C (.func b [] [])) [(T c),(T d)]) e false
abbrev Eb(a:ac):aS:=O a (.alloc 177 [(.aC []),(.bool false),v0,(.bool false),v0,v0,v0,v0])
abbrev BL(a:ac):aS:=O a (.alloc 58 [(i 4 0),v0,.aP,v0,v0,(.aC [])])
abbrev BM(a:ac):aS:=O a (.alloc 86 [.aP,.aP,(.bool false)])
abbrev oQ(a:ac)(b:ac)(c:ac)(d:ac):aS:=G a (.pick (T b) (T c) cF) d false
abbrev ux(a:ac)(b:ac)(c:Nat)(d:Nat):aS:=O a (.il .eql (T b) (C (.aC [c,d])))
abbrev vR(a:ac):aS:=O a (.alloc 64 [v0,.aP])
abbrev uy(b:ac)(a:Nat)(c:ac)(d:Nat)(e:ac):aS:=G b (.arith .eql a (T c) (I a d)) e false
abbrev rC(a:ac)(b:ac)(c:ac):aS:=G a (.unary .not (T b)) c true
abbrev xA(a:ac)(b:Nat)(c:ac)(d:ac)(e:ac)(f:ac):aS:=G a (.call (C (.func b [] [])) [(T c),(T d),(T e)]) f true
abbrev BN(a:ac)(b:Nat)(c:ac)(d:ac)(e:ac):aS:=G a (.dk b (T c) (T d)) e true
abbrev uz(a:ac):aS:=O a (.bg (C .nilFunc))
abbrev Ig(e:ac)(f:Nat)(a:Nat)(g:Nat)(h:Nat)(i:Nat)(j:Nat)(k:Nat)(l:Nat)(m:Nat)(b:Nat)(c:Nat)(d:Nat):aS:=O e (.build [(.aC []),(.bool false),v0,(.bool false),v0,v0,v0,v0] [(f,a,(C (.aC [g,h,i,j]))),(a,a,cT),(k,a,i1),(l,a,cF),(m,a,i0),(b,a,i0),(c,a,i0),(d,a,i0)])
abbrev vS(a:ac)(b:ac)(c:ac):aS:=G a (.arith .eql 3 (T b) i0) c true
abbrev Ec(a:ac):aS:=O a (.alloc 274 [(.bool false),v0,v0,.nilFunc,v0,v0])
abbrev zR(a:ac)(b:ac):aS:=pl a b 1
abbrev qp(a:ac):aS:=N (.store 1 (T a) cT)
abbrev qq(a:ac)(b:Nat)(c:ac):aS:=O a (.iG b [] [(T c)])
abbrev BO(a:ac)(b:ac)(c:ac):aS:=O a (.build [v0,.aP] [(0,1,(T b)),(1,1,(T c))])
abbrev BP(b:ac)(a:ac):aS:=O b (.jr 4 1 1 [(.bool false)] (T a) (T a))
abbrev mA(a:ac)(b:ac)(c:ac)(d:ac):aS:=O a (.call (T b) [(T c),(T d)])
abbrev Ih(a:ac):aS:=O a (.alloc 54 [(i 4 0),.aP,(.aC []),.aP,.aP])
abbrev nj(a:ac)(b:ac)(c:ac):aS:=O a (.call (T b) [(T c)])
abbrev oR(a:ac)(b:Nat)(c:ac):aS:=O a (.lu b (T c))
abbrev bT(a:ac):aS:=k a 0
abbrev rD(a:ac)(b:Nat)(c:ac)(d:ac):aS:=O a (.arith .add b (T c) (T d))
abbrev xB(a:ac):aS:=O a (.bg (C .ls))
abbrev BQ(a:ac)(b:Nat)(c:ac)(d:ac):aS:=G a (.call (C (.func b [] [])) [(T c)]) d true
abbrev zS(a:ac)(b:Nat)(c:Nat)(d:ac)(e:ac):aS:=O a (.gR b c (T d) none (some (T e)) none)
abbrev uA(a:ac)(b:ac)(c:ac):aS:=O a (.arith .neq 3 (T b) (T c))
abbrev BR(a:ac):aS:=O a (.alloc 4 [(.bool false)])
abbrev xC(a:ac)(b:ac):aS:=O a (.arith .neq 3 (T b) i0)
abbrev BS(a:ac)(b:Nat)(c:ac)(d:ac)(e:ac):aS:=G a (.call (C (.func b [] [])) [(T c),(T d)]) e true
abbrev sU(a:ac)(b:Nat)(c:ac)(d:ac)(e:ac):aS:=G a (.dk b (T c) (T d)) e false
abbrev eo(a:ac)(c:Nat)(d:ac)(b:ac)(e:ac)(f:List aS):List aS:=Ea a c d b::BK e a b::f
abbrev fK(b:ac)(e:Nat)(f:ac)(c:ac)(d:ac)(g:ac)(h:ac)(i:Nat)(j:List aS):List aS:=a b e f::l c b::m d g::x h i c d::j
abbrev dl(a:ac)(c:Nat)(d:ac)(b:ac)(e:ac)(f:List aS):List aS:=K5 a c d b::K3 e a b::f
abbrev dq(b:ac)(d:Nat)(e:ac)(c:ac)(f:ac)(g:List aS):List aS:=a b d e::l c b::z f c::g
abbrev gO(a:ac)(b:ac)(c:ac)(d:List aS):List aS:=m a b::zR c a::m b c::d
abbrev j5(a:ac)(d:ac)(b:ac)(e:ac)(c:ac)(f:ac)(g:List aS):List aS:=m a d::m b e::x c 1 a b::l f c::g
abbrev oS(a:ac)(d:ac)(b:ac)(c:ac)(e:ac)(f:ac)(g:List aS):List aS:=m a d::ex b a 0::ex c a 1::m e b::m f c::g
abbrev gP(a:ac)(b:ac)(c:List aS):List aS:=zR a b::m b a::c
abbrev cw(a:ac)(b:Nat)(c:ac)(d:Nat)(e:ac)(f:List aS):List aS:=K0 a b c d::m e a::f
abbrev rE(b:ac)(d:ac)(a:ac)(c:ac)(e:ac)(f:ac)(g:List aS):List aS:=K7 b d a::BN c 1 e b a::BK f c a::g
abbrev eF(b:ac)(c:ac)(d:ac)(e:List aS):List aS:=a b 0 c::l d b::e
abbrev kn(b:ac)(d:ac)(c:ac)(e:ac)(f:Nat)(g:List aS):List aS:=l b d::nc c b::a e f c::g
end Y
open Y
def NN:bp:=(q [b p1 24 p0,f p2] (S (q [ld aZ 4 p1,c aX 26 [km],no bj aX] (H jn (q [c bk 10 [],m p2 bk] .ret) .skip)) (q (ld aY 4 p1::c bw 11 [jo]::c bJ 18 [jp]::oS bo bJ bP bQ p3 p4 []) (S (q (m bM p4::xC bI bM::m bG bI::ez bR p3 bG::mz b8 bR bG::dl bV 2 p1 bG cC [G ct (.arith .neq 3 nf t28) bG false,o b7 bG ct]) (H vM (q [f p2] .ret) .skip)) (q [ld cQ 4 p1,ld cD 4 p1,R cR (.call (C (.func 28 [] [])) [my]) [] [⟨cD,.fZ 4 t1,none⟩],c cY 29 [rr],m p5 cR,m p6 cY] (S (q [bT p7] (Bl 0 (Lp (S (q [m cB p7,m bZ p3,z dc bZ,u db cB dc] (H sN .skip (X 0))) (S (Bl 1 (q [bT p8] (Bl 2 (Lp (S (q (m dg p8::j5 cS p3 de p7 dw dC [z dh dC,u cK dg dh]) (H uu .skip (X 2))) (S (Bl 3 (q (j5 dT p3 ey p7 dp cU [m dX p8,x eC 1 cU dX,l dU eC,m p9 dU]) (S (q (m eP p9::O dY (.arith .lss 3 uw i0)::m ef dY::ez eQ p9 ef::dl eg 2 p1 ef eD (G ff (.arith .geq 3 sQ xw) ef false::o fw ef ff::m eR fw::ez eI p8 eR::G gu (.arith .gtr 3 BG i0) eR false::ez eh gu eR::K7 fH p9 eh::K7 fI p3 eh::rE fW p7 eh fP fI eZ [K7 fX p8 eh,G fg (.arith .sub 3 xz i1) eh true,BN gN 1 eZ fg eh,BK fY gN eh,G gX (.arith .leq 3 xx BI) eh true,oQ fJ eh gX eR,o iz eR fJ])) (H zQ (q [f p2] .ret) .skip)) (q (j5 iA p6 ic p7 io iE (j5 jE p6 iX p9 jY iY [m aO iE,m aQ iY])) (q (m k7 aO::oP mq k7::m kL mq::K7 lb aQ kL::G jF (.arith .geq 3 HQ i0) kL true::y ki kL jF::m kj ki::K7 mY p5 kj::rE mZ aO kj lf mY m8 (rE po aQ kj pX m8 nW (rC oI nW kj::y lg kj oI::m jh lg::K7 mr p5 jh::rE oJ aQ jh mu mr pp (rE lG aO jh oK pp oM [rC lH oM jh,y l8 jh lH])))) (H W3 (q [f p2] .ret) .skip)))))) (r (gO dD p8 dN [])))))))) (r (gO di p7 du []))))))) (q [c lh 10 [],m p2 lh] .ret)))))))
def Xx:aE:=.code 116 [.tmp p2] NN
def Xy:aE:=.code 131 [.tmp p2] (q [b p1 24 p0,f p2] (S (q (dq p7 3 p1 p8 p9 (O aO (.arith .gtr 3 t9 (I 3 30))::m aQ aO::eo aZ 3 p1 aQ aX (kO bj aX aQ::G bk (.arith .leq 3 jn (I 3 1500)) aQ true::y bo aQ bk::m aY bo::dl bw 3 p1 aY bJ (mz bP bJ aY::ng bQ 3 bP 3000 aY::o bM aY bQ::m bI bM::dl bG 2 p1 bI bR (ng b8 3 bR 200 bI::ez bV b8 bI::eo cC 2 p1 bV ct (G b7 (.arith .leq 3 nZ (I 3 6000)) bV true::oQ cQ bV b7 bI::o cR bI cQ::m cD cR::dl cY 0 p1 cD cB [G bZ (.ku ru) cD false,ng dc 3 bZ 60 cD,o db cD dc])))))) (H sN (q [kl p2] .ret) .skip)) (S (q [bT p3] (Bl 0 (Lp (S (q (m di p3::dq du 3 p1 dg cS [u de di cS]) (H vN .skip (X 0))) (S (Bl 1 (q (fK dh 3 p1 cK dD p3 dN 7 [ld dT 7 dN,K1 p4,s 7 p4 dT]) (S (q (dq ey 0 p4 dp cU (O dX (.arith .gtr 3 t53 (I 3 12))::m eC dX::dl dU 1 p4 eC eP (mz dY eP eC::ng ef 3 dY 40 eC::o eQ eC ef::m eg eQ::K5 eD 2 p4 eg::dl ff 1 eD eg fw (mz eR fw eg::ng eI 3 eR 12 eg::o gu eg eI::m eh gu::K5 fH 2 p4 eh::dl fI 3 fH eh fW (mz fP fW eh::ng eZ 3 fP 12 eh::o fX eh eZ::m fg fX::K5 gN 2 p4 fg::dl fY 4 gN fg gX (mz fJ gX fg::ng iz 3 fJ 12 fg::o iA fg iz::m ic iA::K5 io 2 p4 ic::dl iE 2 io ic jE [G iX (.ku D5) ic false,ng jY 3 iX 60 ic,o iY ic jY])))))) (H D6 (q [kl p2] .ret) .skip)) (S (q [bT p5] (Bl 2 (Lp (S (q (m k7 p5::dq mq 1 p4 kL lb [u jF k7 lb]) (H Nz .skip (X 2))) (S (Bl 3 (q (fK mY 1 p4 mZ lf p5 m8 6 (dq po 2 m8 pX nW (O oI (.arith .gtr 3 NB (I 3 12))::m lg oI::dl jh 1 p4 lg mr (ez oJ p5 lg::sU mu 6 mr oJ lg::dl pp 5 mu lg lG [G oK (.ku HV) lg false,ng oM 3 oK 250 lg,o lH lg oM])))) (H ND (q [kl p2] .ret) .skip))) (r (gO ki p5 kj []))))))) (q [bT p6] (Bl 4 (Lp (S (q (m l8 p6::a lh 2 p4::dq nX 4 lh pY m9 [u pq l8 m9]) (H W6 .skip (X 4))) (S (Bl 5 (q (a pt 2 p4::fK sI 4 pt ul qh p6 li 2 (dq um 1 li sJ qi [O sK (.arith .gtr 3 HZ (I 3 12))])) (H Ic (q [kl p2] .ret) .skip))) (r (gO pZ p6 qf []))))))))))) (r (gO dw p3 dC []))))))) (q [f p2] .ret))))
def Xz:aE:=.code 26 [.cell p2 true 4] (q [b p1 24 p0,O p2 (.alloc 24 [(.aC []),v0,v0,.aP])] (q [ld p5 4 p1,O p3 (.alloc 24 [(.aC []),v0,v0,.aP]),s 4 p3 p5] (q [a p6 3 p3,N (.store 1 t6 cN)] (S (q [bT p4] (Bl 0 (Lp (S (q (m p7 p4::dq p8 3 p1 p9 aO [u aQ p7 aO]) (H kM .skip (X 0))) (S (Bl 1 (r (a bj 3 p3::l bk bj::fK bo 3 p1 aY bw p4 bJ 7 [ld bP 7 bJ,R bQ (.call (C (.func 33 [] [])) [kN]) [] [⟨bk,.aW jn,none⟩],O bM (.buildSlice 56 1 [.aP,.aP,(i 4 0),.aP,(.aC []),.aP,.aP] [(0,7,ql)]),O bI (.append 56 144 7 [.aP,.aP,(i 4 0),.aP,(.aC []),.aP,.aP] false l9 na),a bG 3 p3,s 1 bG bI]))) (r (gO aZ p4 aX []))))))) (q [ld bR 4 p3,s 4 p2 bR] .ret)))))
def XA:aE:=.code 15 [.tmp p2] (q [b p1 24 p0,bT p2] (S (Bl 0 (q [ld p4 4 p1,c p5 39 [t4],no p6 p5,m p3 p6] (H t3 (q [k p2 5] .ret) (q [ld p8 4 p1,c p9 40 [t8],no aO p9,m p7 aO] (H t7 (q [k p2 4] .ret) (q [ld aZ 4 p1,c aX 41 [km],no bj aX,m aQ bj] (H kM (q [k p2 9] .ret) .skip))))))) (q [bT p2] .ret)))
def XB:aE:=.code 8 [.tmp p2,.tmp p3] (q [b p1 24 p0,nl p2,bT p3] (q [ld p4 4 p1,c p5 51 [t4,(C (.func 52 [] []))],ex p6 p5 0,ex p7 p5 1,m p2 p6,m p3 p7] .ret))
def XC:aE:=.code 26 [.tmp p4] (q [f p4] (S (q [m p6 p0,z p7 p6,m p8 p1,z p9 p8,uA aO p7 p9] (H fi (q [f p4] .ret) .skip)) (S (q [bT p5] (Bl 0 (Lp (S (q [m aQ p5,m aZ p0,z aX aZ,u bj aQ aX] (H jn .skip (X 0))) (S (Bl 1 (q (j5 aY p0 bw p5 bJ bP (j5 bQ p1 bM p5 bI bG [uA bR bP bG])) (H ur (q [f p4] .ret) .skip))) (r (gO bk p5 bo []))))))) (q [kl p4] .ret))))
def XD:aE:=.code 11 [.tmp p2] (q [b p1 24 p0,f p2] (q [ld p3 4 p1,c p4 9 [t3],no p5 p4,m p6 p5,G p7 (.fZ 4 t1) p6 true,BQ p8 13 p7 p6,vS p9 p8 p6,y aO p6 p9,m p2 aO] .ret))
def XE:aE:=.code 63 [.tmp p2] (q [b p1 24 p0,nl p2] (q [ld p9 4 p1,c aO 42 [t9,(J 3 0)],O aQ (.buildSlice 61 0 [.aP] []),BM p3,s 3 p3 aO,m p4 aQ] (S (q [bT p5] (Bl 0 (Lp (S (q (m aZ p5::dq aX 3 p1 bj bk [u bo aZ bk]) (H jZ .skip (X 0))) (S (Bl 1 (q [ld bJ 4 p1,m bP p5,c bQ 42 [nY,kN],O bM (.buildSlice 4 0 [(.bool false)] []),BM p6,s 3 p6 bQ,m p7 bM] (S (q [bT p8] (Bl 2 (Lp (S (q (m bI p8::dq bG 3 p1 bR b8 [u bV bI b8]) (H rq .skip (X 2))) (S (Bl 3 (r (m b7 p7::fK cQ 0 p3 cR cD p5 cY 1 (l cB cY::m bZ cB::eo dc 0 p3 bZ db (rE di p8 bZ du db dg (y cS bZ dg::m de cS::K7 dw p5 de::K7 dC p8 de::G dh (.arith .eql 3 py ut) de true::K7 cK dh de::dl dD 0 p6 cK dN [ez dT p8 cK,sU ey 1 dN dT cK,K3 dp ey cK,ma cU dp cK,G dX (.pick uu cT t53) de true,y eC de dX,O dU (.buildSlice 4 1 [(.bool false)] [(0,1,BC)]),O eP (.append 4 1 1 [(.bool false)] false vM BD),m p7 eP])))))) (r (gO cC p8 ct []))))))) (r [m dY p4,m ef p7,O eQ (.buildSlice 61 1 [.aP] [(0,1,xu)]),O eg (.append 61 24 1 [.aP] false rB sQ),m p4 eg])))) (r (gO aY p5 bw []))))))) (q [m eD p4,m p2 eD] .ret))))
def XF:aE:=.code 47 [.tmp p2] (q [b p1 24 p0,nl p2] (q [a p8 2 p1,l p9 p8,O aO (.jr 3 8 1 [v0] t9 t9),m p3 aO] (S (q [bT p4] (Bl 0 (Lp (S (q [m aQ p4,a aZ 1 p1,l aX aZ,u bj aQ aX] (H jn .skip (X 0))) (S (Bl 1 (r [m aY p3,m bw p4,x bJ 1 aY bw,N (.store 1 nY (J 3 0))])) (r (gO bk p4 bo []))))))) (S (q [bT p5] (Bl 2 (Lp (S (q (m bP p5::dq bQ 3 p1 bM bI [u bG bP bI]) (H rp .skip (X 2))) (S (Bl 3 (q (fK bV 3 p1 cC ct p5 b7 7 [ld cQ 7 b7,c cR 59 [my],m p6 cR]) (q [bT p7] (Bl 4 (Lp (S (q [m cD p7,m cY p6,z cB cY,u bZ cD cB] (H xp .skip (X 4))) (S (Bl 5 (r (m di p3::j5 du p6 dg p7 cS de [m dw p5,x dC 1 di de,s 1 dC dw]))) (r (gO dc p7 db []))))))))) (r (gO bR p5 b8 []))))))) (q [m dh p3,m p2 dh] .ret)))))
def XG:aE:=.code 86 [.cell p2 true 7] (q [b p1 56 p0,K1 p2] (q [sS p7,a p8 0 p1,R p9 (.aW t8) [p7] [],a aQ 2 p1,R aZ (.fZ 5 kM) [p7] [],K1 p3,R aO (.append 3 8 1 [v0] false t7 t9) [p3] [⟨aZ,.fZ 5 kM,none⟩],O aX (.build [.aP,.aP,(i 4 0),.aP,(.aC []),.aP,.aP] [(0,1,fi),(2,5,km)]),s 7 p3 aX] (S (q [bT p4] (Bl 0 (Lp (S (q (m bj p4::dq bk 1 p1 bo aY [u bw bj aY]) (H jp .skip (X 0))) (S (Bl 1 (q (fK bQ 1 p1 bM bI p4 bG 6 [ld bR 6 bG,BL p5,s 6 p5 bR]) (q [sS b8,a bV 2 p5,l cC bV,K4 ct b8 cC,a b7 2 p5,s 1 b7 ct] (r [a cQ 1 p3,l cR cQ,ld cD 6 p5,O cY (.buildSlice 58 1 [(i 4 0),v0,.aP,v0,v0,(.aC [])] [(0,6,rr)]),O cB (.append 58 72 6 [(i 4 0),v0,.aP,v0,v0,(.aC [])] false sM pu),a bZ 1 p3,s 1 bZ cB])))) (r (gO bJ p4 bP []))))))) (q [sS dc,a db 2 p1,a di 1 db,R du (.aW rA) [dc] [],O cS (.buildSlice 5 0 [(i 4 0)] []),a de 2 p1,a dw 3 de,R dC (.aW py) [cS,dc] [],R dg (.append 3 8 1 [v0] false n6 sO) [cS] [⟨dC,.aW py,none⟩],a cK 2 p3,a dD 1 cK,O dh (.append 5 1 1 [(i 4 0)] false BA ut),s 1 dD dg,a dN 2 p3,a dT 3 dN,s 1 dT dh,a ey 2 p3,a dp 4 ey,N (.store 1 zJ cN)] (S (q [bT p6] (Bl 2 (Lp (S (q (m cU p6::a dX 2 p1::dq eC 4 dX dU eP [u dY cU eP]) (H rB .skip (X 2))) (S (Bl 3 (r (a eg 2 p3::a eD 4 eg::l ff eD::a fw 2 p1::fK eR 4 fw eI gu p6 eh 2 (eF fH eh fI [sS fW,a fP 2 p1,a eZ 4 fP,R fX (.aW BH) [fW] [],m fg p6,x gN 2 fX fg,a fY 1 gN,R gX (.aW BI) [fW] [],R fJ (.append 3 8 1 [v0] false vP zP) [] [⟨fI,.aW xx,none⟩,⟨eI,.aW BF,none⟩,⟨ff,.aW xw,none⟩],BO iz fI fJ,O iA (.buildSlice 64 1 [v0,.aP] [(0,2,zQ)]),O ic (.append 64 32 2 [v0,.aP] false zK BJ),a io 2 p3,a iE 4 io,s 1 iE ic])))) (r (gO ef p6 eQ []))))))) (q [ld jE 7 p3,s 7 p2 jE] .ret))))))
def XH:aE:=.code 55 [.tmp p2,.tmp p3] (q [b p1 24 p0,xB p2,bT p3] (q (ld aZ 4 p1::c aX 73 [km]::oS aQ aX bj bk p4 p5 []) (S (q [m bo p5,xC aY bo] (H jo (q [m bw p5,xB p2,m p3 bw] .ret) .skip)) (q (ld bJ 4 p1::m bP p4::dq bQ 3 p1 bM bI [O bG (.jr 123 24 1 [.aP] mw mw),O bR (.build [(.aC []),v0,v0,.aP,.aP,.aP,.aP] [(0,4,nY),(4,1,kN),(5,1,rp)]),b b8 78 bR,O p6 (.alloc 72 [.ls]),s 1 p6 b8]) (q [l cC p6,ld ct 4 p1,R b7 (.call (C (.func 74 [] [])) [nZ]) [] [⟨cC,.aW t6,none⟩],m bV b7,ex cQ bV 0,ex cR bV 1,nc cD cC,a cY 6 cD,s 1 cY cQ] (S (q [m cB p4,z bZ cB,bT dc] (Bl 0 (Lp (q [u db dc bZ] (S (H sN .skip (X 0)) (S (Bl 1 (q [x di 1 cB dc,l du di,m p8 du] (q [l dg p6,m cS p8,c de 75 [px,BA]] (Bl 2 (.rangeFunc vN [dw,dC] (q [m p9 dw] (r [m aO dC])) (Bl 3 (r (kn dh p6 cK dD 5 [l dN dD,m dT p9,m ey aO,x dp 1 dN dT,s 1 dp ey])))))))) (r (gP cU dc [])))))))) (q [l dX p6,m p2 dX,bT p3] .ret)))))))
def XI:aE:=.code 81 [.tmp p4] (q [b p2 72 p0,nl p4] (q (kn bj p2 bk bo 0 (fK aY 3 bo bw bJ p1 bP 7 [ld bQ 7 bP,K1 p5,s 7 p5 bQ])) (q [l bM p2,m bI p1,c bG 77 [na,mw],oO p6 42,s 1 p6 bG] (q [O bR (.j7),R b8 (.aW t6) [bR] [],a cC 2 p5,a ct 1 cC,R b7 (.aW nZ) [bR] [],O p7 (.alloc 82 [.cL]),R bV (.call (C (.func 78 [] [])) [ur,(J 3 0),nf]) [p7] [⟨b7,.aW nZ,none⟩],R cQ (.call (C (.func 78 [] [])) [rq,(J 3 0),vM]) [p7] [],s 1 p7 cQ] (S (q (a cR 2 p5::dq cD 4 cR cY cB [bT bZ]) (Bl 0 (Lp (q [u dc bZ cB] (S (H n6 .skip (X 0)) (S (Bl 1 (q [x db 2 cY bZ,ld di 2 db,vR p9,s 2 p9 di] (r [l du p7,a dg 1 p9,l cS dg,c de 78 [sO,(J 3 0),BA],s 1 p7 de]))) (r (gP dw bZ [])))))))) (S (q [l dC p2,m dh p1,c cK 75 [ut,t46]] (Bl 2 (.rangeFunc uu [dD,dN] (r [m aO dD]) (Bl 3 (r (l dT p7::l ey p2::nc dp ey::fK cU 6 dp dX eC aO dU 1 [l eP dU,c dY 78 [BB,(J 3 0),uw],s 1 p7 dY])))))) (q [l ef p7,O eQ (.buildSlice 82 1 [.cL] [(0,1,xu)]),oO aQ 79,s 1 aQ eQ] (S (q [a eg 1 p5,l eD eg,c ff 79 [xw]] (Bl 4 (.rangeFunc zK [fw,eR] (r [BL aX,s 6 aX eR]) (Bl 5 (q [l eI p7,a gu 1 aX,l eh gu,a fH 2 aX,l fI fH,l fP p6,R fW (.call (C (.func 78 [] [])) [BG,zN,sR]) [] [⟨fP,.aW t6,none⟩],c eZ 78 [vP,(J 3 0),xy],s 1 p7 eZ] (r [l fX aQ,l fg p7,O gN (.buildSlice 82 1 [.cL] [(0,1,zO)]),O fY (.append 82 8 1 [.cL] false xz HM),s 1 aQ fY])))))) (q [l gX aQ,c fJ 80 [zP]] (q [l iz aQ,m p4 iz] .ret))))))))))
def XJ:aE:=.code 61 [.tmp p2] (q [b p1 24 p0,f p2] (q [bT p3] (S (q [bT p4] (Bl 0 (Lp (S (q (m p6 p4::dq p7 3 p1 p8 p9 [u aO p6 p9]) (H fi .skip (X 0))) (S (Bl 1 (q (m aX p3::fK bj 3 p1 bk bo p4 aY 7 (dq bw 1 aY bJ bP [rD bQ 3 aX bP,m p3 bQ])) (q [bT p5] (Bl 2 (Lp (S (q (m bM p5::fK bI 3 p1 bG bR p4 b8 7 (a bV 2 b8::dq cC 4 bV ct b7 [u cQ bM b7])) (H my .skip (X 2))) (S (Bl 3 (r (m cY p3::fK cB 3 p1 bZ dc p4 db 7 (a di 2 db::fK du 4 di dg cS p5 de 2 (dq dw 1 de dC dh [rD cK 3 cY dh,m p3 cK]))))) (r (gO cR p5 cD []))))))))) (r (gO aQ p4 aZ []))))))) (q (dq dD 3 p1 dN dT (O ey (.arith .leq 3 BB (I 3 1500))::m dp ey::eo cU 2 p1 dp dX [G eC (.arith .leq 3 sP (I 3 6000)) dp true,y dU dp eC,m eP dU,K7 dY p3 eP,G ef (.arith .leq 3 rB (I 3 6000)) eP true,y eQ eP ef,m p2 eQ])) .ret))))
def XK:aE:=.code 144 [.tmp p2] (q [b p1 24 p0,f p2] (S (q (eF aQ p1 aZ (c aX 82 [km]::no bj aX::m bk bj::dl bo 1 p1 bk aY (dl bw 2 p1 bk bJ (G bP (.call (C (.func 61 [] [])) [jo,i0,nY]) bk false::ma bQ bP bk::o bM bk bQ::m bI bM::dl bG 3 p1 bI bR (mz b8 bR bI::G bV (.arith .eql 3 nf i0) bI false::o cC bI bV::m ct cC::dl b7 3 p1 ct cQ (G cR (.dk 7 my i0) ct false::dl cD 0 cR ct cY [mz cB cY ct,G bZ (.arith .gtr 3 ru i0) ct false,o dc ct bZ])))))) (H n6 (q [f p2] .ret) .skip)) (q [a db 2 p1,l di db,BP du di,m p3 du] (S (q [bT p4] (Bl 0 (Lp (S (q [m dg p4,a cS 1 p1,l de cS,u dw dg de] (H py .skip (X 0))) (S (Bl 1 (r [m cK p3,m dD p4,x dN 1 cK dD,qp dN])) (r (gO dC p4 dh []))))))) (S (q [bT p5] (Bl 2 (Lp (S (q (m dT p5::dq ey 3 p1 dp cU [u dX dT cU]) (H sP .skip (X 2))) (S (Bl 3 (q (fK eP 3 p1 dY ef p5 eQ 7 [ld eg 7 eQ,K1 p6,s 7 p6 eg]) (q (sS eD::eF ff p6 fw [K4 eR eD fw,m p7 eR]) (S (q [bT p8] (Bl 4 (Lp (S (q (m eI p8::dq gu 1 p6 eh fH [u fI eI fH]) (H sR .skip (X 4))) (S (Bl 5 (S (q (fK eZ 1 p6 fX fg p8 gN 6 [ld fY 6 gN,a gX 2 p1,l fJ gX,c iz 83 [BI,HN],no iA iz]) (H BJ (q [f p2] .ret) .skip)) (q (fK ic 1 p6 io iE p8 jE 6 [a iX 1 jE,l jY iX,oP iY jY]) (H D6 (r (m k7 p7::fK mq 1 p6 kL lb p8 jF 6 [a ki 1 jF,l kj ki,pz mY kj,K4 mZ k7 mY,m p7 mZ])) .skip)))) (r (gO fW p8 fP []))))))) (S (q [bT p9] (Bl 6 (Lp (S (q [m lf p9,m m8 p7,z po m8,u pX lf po] (H D9 .skip (X 6))) (S (Bl 7 (S (q (j5 lg p7 jh p9 mr oJ [a mu 2 p1,l pp mu,K6 lG pp,c oK 61 [W1,i0,HV],no oM oK,m lH oM,ez l8 p3 lH,ez lh p7 lH,ez nX p9 lH,sU pY 1 lh nX lH,K3 m9 pY lH,sU pq 1 l8 m9 lH,K3 pZ pq lH,o qf lH pZ]) (H NG (q [f p2] .ret) .skip)) (r (m pt p3::j5 sI p7 ul p9 qh li [x um 1 pt li,qp um])))) (r (gO nW p9 oI []))))))) (q [ld sJ 4 p1,a qi 2 p6,ld sK 5 qi,c rm 84 [NK,Ic],no xl rm] (H Ie (q [f p2] .ret) .skip))))))) (r (gO eC p5 dU []))))))) (S (q [bT aO] (Bl 8 (Lp (S (q [m uo aO,a oN 2 p1,l vI oN,u zG uo vI] (H If .skip (X 8))) (S (Bl 9 (q (j5 Bp p3 DL aO Bq zI [no Br zI]) (H Xg (q [f p2] .ret) .skip))) (r (gO zH aO uq []))))))) (q [kl p2] .ret)))))))
def XL:aE:=.code 181 [.tmp p2] (q [b p1 24 p0,f p2] (q [ld bj 4 p1,c bk 42 [jn,(J 3 0)],BM p3,s 3 p3 bk] (S (q [a bo 2 p3,l aY bo] (H jo (q [f p2] .ret) .skip)) (q [ld bw 4 p1,ld bP 4 p1,R bJ (.call (C (.func 28 [] [])) [jp]) [] [⟨bP,.fZ 4 t1,none⟩],c bQ 29 [kN],m p4 bJ,m p5 bQ] (S (q [bT p6] (Bl 0 (Lp (S (q (m bM p6::dq bI 3 p1 bG bR [u b8 bM bR]) (H nf .skip (X 0))) (S (Bl 1 (S (q (fK ct 0 p3 b7 cQ p6 cR 1 [l cD cR,no cY cD]) (H pu (X 1) .skip)) (q (fK cB 3 p1 bZ dc p6 db 7 [ld di 7 db,a du 1 p3,l dg du,m cS p6,x de 1 dg cS,l dw de,K1 p7,M (.store 7 t7 rA) [] [⟨dw,.aW vN,none⟩,⟨dg,.aW sO,none⟩],m p8 dw]) (S (q (a dC 2 p7::eF dh dC cK (cw dD 4 cK 68 dN (K7 dT p8 dN::kO ey dT dN::vS dp ey dN::K7 cU dp dN::K5 dX 2 p7 cU::dl eC 1 dX cU dU (mz eP dU cU::dl dY 3 p1 cU ef (dl eQ 3 p1 cU eg (ez eD p8 cU::ez ff p8 cU::mz fw ff cU::G eR (.arith .sub 3 zL i1) cU false::sU eI 1 eD eR cU::K3 gu eI cU::G eh (.arith .quo 3 zM i2) cU false::sU fH 7 eg eh cU::K5 fI 2 fH cU::dl fW 4 fI cU fP (G eZ (.dk 2 xy i2) cU false::dl fX 0 eZ cU fg (sU gN 7 ef fg cU::dl fY 0 gN cU gX (mz fJ gX cU::G iz (.arith .neq 3 uw HN) cU false::G iA (.pick t53 cT zQ) dN true::y ic dN iA::m io ic::K5 iE 2 p7 io::dl jE 0 iE io iX [uy jY 4 iX 69 io,ez iY jY io,K7 k7 p8 iY,kO mq k7 iY,G kL (.arith .gtr 3 D7 i0) iY true,oQ lb iY kL io,o jF io lb]))))))))) (H Nz (q [f p2] .ret) .skip)) (q (sS ki::eF kj p7 mY [K4 mZ ki mY,m p9 mZ]) (q [bT aO] (Bl 2 (Lp (S (q (m lf aO::dq m8 1 p7 po pX [O nW (.arith .leq 3 WX D9)]) (H NB .skip (X 2))) (S (Bl 3 (q [a jh 2 p7,ld mr 5 jh,c oJ 45 [W0],m aQ oJ] (S (q (m mu aO::dq pp 1 p7 lG oK [u oM mu oK]) (H NC (r (fK lH 1 p7 l8 lh aO nX 6 [a pY 2 nX,l m9 pY,m aQ m9])) .skip)) (S (q [bT aZ] (Bl 4 (Lp (S (q [m pq aZ,m pZ aQ,z qf pZ,u pt pq qf] (H NH .skip (X 4))) (S (Bl 5 (q (m qh p5::j5 li aQ um aZ sJ qi [x sK 1 qh qi,l rm sK,m aX rm]) (q (m xl aX::oP uo xl::m oN uo::K7 vI aX oN::K7 zG p6 oN::G zH (.arith .neq 3 Xb If) oN true::K7 uq zH oN::K7 Bp p4 uq::rE DL aX uq Bq Bp zI (rE Br p6 uq Hl zI vJ (G DM (.pick NL Xh cF) oN true::rC Bs DM oN::y Hm oN Bs::m sL Hm::K7 Bt p9 sL::K7 Bu aQ sL::rE Hn aZ sL Ho Bu Bv [BS DN 60 Bt Bv sL,rC DO DN sL,y DP sL DO]))) (H Xj (q [f p2] .ret) .skip)))) (r (gO sI aZ ul []))))))) (q (m Hp aO::dq M0 1 p7 Hq Hr (u Bw Hp Hr::m vK Bw::eo vL 1 p7 vK DQ (K7 Bx aO vK::BN DR 6 DQ Bx vK::eo Hu 1 DR vK xm [G DS (.arith .geq 3 NM i0) vK true,y DT vK DS]))) (H Xm (r (m xn p9::fK DU 1 p7 DV Hv aO DW 6 [a DX 1 DW,l qj DX,pz DY qj,K4 By xn DY,m p9 By])) .skip)))))) (r (gO oI aO lg [])))))))))))) (r (gO bV p6 cC []))))))) (q [kl p2] .ret))))))
def XM:aE:=.code 95 [.cell p4 true 3] (q [b p2 24 p0,BM p4] (q (dq aZ 3 p2 aX bj [m p5 bj]) (q [m bk p5,BP bo bk,m aY p5,O bw (.jr 135 24 1 [.aP] jo jo),O bJ (.build [.aP,.aP,(.bool false)] [(0,1,jZ),(1,1,jp)]),BM p6,s 3 p6 bJ] (S (q [m bP p1,xC bQ bP] (H ql (r (eF bM p6 bI [O bG (.dk 1 mw i0),qp bG])) .skip)) (S (q [kl p7] (Bl 0 (Lp (S (q [m bR p7] (H ur .skip (X 0))) (Bl 1 (q [f p7] (q [bT p8] (Bl 2 (Lp (S (q [m b8 p8,m bV p5,u cC b8 bV] (H t28 .skip (X 2))) (S (Bl 3 (q [O cQ (.buildSlice 139 0 [v0,.aP] []),m p9 cQ] (S (q (fK cR 0 p6 cD cY p8 cB 1 [l bZ cB]) (H xp (r [ld dc 4 p2,m db p8,a di 1 p6,l du di,m dg p8,x cS 1 du dg,l de cS,c dw 85 [n6,sN,vN],m p9 dw]) .skip)) (q [bT aO] (Bl 4 (Lp (S (q [m dC aO,m dh p9,z cK dh,u dD dC cK] (H uv .skip (X 4))) (S (Bl 5 (q (m ey p9::m dp aO::x cU 2 ey dp::eF dX cU eC [m aQ eC]) (Bl 6 (q [m eP aQ,m dY p1,O ef (.arith .eql 3 uw rB),m dU ef] (H BD .skip (q (fK eg 0 p6 eD ff aQ fw 1 [l eR fw,no eI eR,m eQ eI]) (H sQ (r (eF gu p6 eh [m fH aQ,a fI 1 p6,l fW fI,m fP aQ,m eZ p9,m fX aO,x fg 2 eZ fX,a gN 1 fg,l fY gN,x gX 1 eh fH,M (.store 1 zP cT) [] [⟨fW,.aW sR,none⟩],x fJ 1 fW fP,s 1 fJ fY,kl p7])) (q [a iA 1 p6,l ic iA,m io aQ,x iE 1 ic io,l jE iE,m iX p9,m jY aO,x iY 2 iX jY,a k7 1 iY,l mq k7,c kL 23 [D5,D7],no lb kL,m iz lb] (H zQ (r [a jF 2 p6,qp jF]) .skip))))))))) (r (gO dN aO dT [])))))))))) (r (gO ct p8 b7 []))))))))))))) (q [ld ki 3 p6,s 3 p4 ki] .ret))))))
def XN:aE:=.code 25 [.tmp p2] (q [b p1 54 p0,nl p2] (q [sS p5,a p6 1 p1,l p7 p6,K4 p8 p5 p7,m p3 p8] (S (q [bT p4] (Bl 0 (Lp (S (q (m p9 p4::dq aO 4 p1 aQ aZ [u aX p9 aZ]) (H lI .skip (X 0))) (S (Bl 1 (r (m bo p3::fK aY 4 p1 bw bJ p4 bP 2 [a bQ 1 bP,l bM bQ,K4 bI bo bM,m p3 bI]))) (r (gO bj p4 bk []))))))) (q [m bG p3,m p2 bG] .ret))))
def XO:aE:=.code 4 [.tmp p2] (q [b p1 72 p0,uz p2] (q [qq p3 88 p1,m p2 p3] .ret))
def XP:aE:=.code 19 [.tmp p4,.tmp p5] (q [b p2 24 p0,nl p4,bT p5] (q (ld p8 4 p2::c p9 34 [t8]::oS p7 p9 aO aQ p6 p5 []) (S (q [m aZ p5,xC aX aZ] (H lI (q [m bj p4,m bk p5,m p4 bj,m p5 bk] .ret) .skip)) (q [m bo p1,m aY p6,nj bw bo aY,m p4 bw,bT p5] .ret))))
def XQ:aE:=.code 19 [.tmp p2] (q [nl p2] (S (q [m p5 p0,c p6 53 [t5],z p7 p6,bT p8] (Bl 0 (Lp (q [u p9 p8 p7] (S (H t9 .skip (X 0)) (S (Bl 1 (q [x aO 1 p6 p8,l aQ aO,m p4 aQ] (r [m aZ p2,m aX p4,c bj 38 [lI],O bk (.buildSlice 42 1 [.aP] [(0,1,jn)]),O bo (.append 42 24 1 [.aP] false km l9),m p2 bo]))) (r (gP aY p8 [])))))))) (q [m bw p2,m p2 bw] .ret)))
def XR:aE:=.code 46 [.tmp p2] (q [nl p2] (q [m p7 p0,nc p8 p7,a p9 0 p8,a aO 2 p9,l aQ aO,O aZ (.jr 82 8 1 [.cL] kM kM),oO p3 79,s 1 p3 aZ] (S (q [m aX p0,c bj 50 [lI]] (Bl 0 (.rangeFunc jn [bk] (r [m p4 bk]) (Bl 1 (.eB 1002))))) (q [l dC p3,m p2 dC] .ret))))
def XS:aE:=.code 33 [.tmp p2] (q [b p1 56 p0,nl p2] (q (sS p5::eF p6 p1 p7 [K4 p8 p5 p7,m p3 p8]) (S (q [bT p4] (Bl 0 (Lp (S (q (m p9 p4::dq aO 1 p1 aQ aZ [u aX p9 aZ]) (H lI .skip (X 0))) (S (Bl 1 (q (fK bo 1 p1 aY bw p4 bJ 6 [a bP 1 bJ,l bQ bP,oP bM bQ]) (H na (r (m bI p3::fK bG 1 p1 bR b8 p4 bV 6 [a cC 1 bV,l ct cC,pz b7 ct,K4 cQ bI b7,m p3 cQ])) .skip))) (r (gO bj p4 bk []))))))) (q [m cR p3,m p2 cR] .ret))))
def XT:aE:=.code 18 [.tmp p4] (q [f p4] (S (q [bT p5] (Bl 0 (Lp (S (q [m p6 p5,m p7 p0,z p8 p7,u p9 p6 p8] (H t9 .skip (X 0))) (S (Bl 1 (q (j5 aZ p0 aX p5 bj bk [m bo p1,O aY (.arith .eql 3 l9 jZ)]) (H jo (q [kl p4] .ret) .skip))) (r (gO aO p5 aQ []))))))) (q [f p4] .ret)))
def XU:aE:=.code 15 [.tmp p6] (q [f p6] (q [m p7 p0,m p8 p1,O p9 (.arith .geq 3 t7 t8),m aO p9,K7 aQ p0 aO,K7 aZ p2 aO,G aX (.arith .leq 3 kM km) aO true,y bj aO aX,m p6 bj] .ret))
def XV:aE:=.code 9 [.tmp p4] (q [f p4] (q [m p5 p0,m p6 p1,c p7 96 [t5,t6],oP p8 p7,m p4 p8] .ret))
def XW:aE:=.code 8 [.tmp p2,.tmp p3] (q [b p1 24 p0,nl p2,bT p3] (q [ld p4 4 p1,c p5 113 [t4,(C (.func 114 [] []))],ex p6 p5 0,ex p7 p5 1,m p2 p6,m p3 p7] .ret))
def XX:aE:=.code 8 [.tmp p2,.tmp p3] (q [b p1 24 p0,nl p2,bT p3] (q [ld p4 4 p1,c p5 115 [t4,(C (.func 116 [] []))],ex p6 p5 0,ex p7 p5 1,m p2 p6,m p3 p7] .ret))
def XY:aE:=.code 6 [.tmp p4] (q [b p2 72 p0,b p3 3 p1,uz p4] (q [O p5 (.iG 117 [] [t2,t3]),m p4 p5] .ret))
def XZ:aE:=.code 39 [.cell p4 false 1] (q [b p2 72 p0,oO p4 42] (S (q (l p7 p2::nc p8 p7::fK p9 5 p8 aO aQ p1 aZ 1 [l aX aZ,c bj 120 [lI]]) (Bl 0 (.rangeFunc jn [bk,bo] (r [O p6 (.alloc 168 [v0,(.bool false)]),s 2 p6 bo]) (Bl 1 (q [a aY 1 p6,l bw aY] (H jp (q (kn bJ p2 bP bQ 6 (l bM bQ::kn bI p2 bG bR 0 (a b8 3 bR::l bV b8::eF cC p6 ct (x b7 7 bV ct::a cQ 2 b7::a cR 4 cQ::l cD cR::O cY (.dk 2 rr i1)::eF cB cY bZ [x dc 1 bM bZ,l db dc,s 1 p4 db])))) .ret) .skip)))))) (q [N (.store 1 t4 cN)] .ret)))
def X8:aE:=.code 27 [.tmp p6] (q [O p6 (.bg (C .cL))] (q [m aO p0,c aQ 121 [fi],m p7 aQ] (S (q [m aZ p7,O aX (.eq false .map km (C .cL))] (H lI (r [O bj (.j7),m p7 bj]) .skip)) (q [m bk p7,m bo p1,N (.delete .int l9 jZ)] (S (q [m aY p2,z bw aY,bT bJ] (Bl 0 (Lp (q [u bP bJ bw] (S (H kN .skip (X 0)) (S (Bl 1 (q [x bQ 1 aY bJ,l bM bQ,m p9 bM] (r [m bI p7,m bG p9,N (.ju .int mw rp cT)]))) (r (gP bR bJ [])))))))) (q [m b8 p7,m p6 b8] .ret))))))
def X9:aE:=.code 4 [.tmp p2] (q [b p1 50 p0,uz p2] (q [qq p3 122 p1,m p2 p3] .ret))
def X':aE:=.code 28 [] (q [m p4 p0,z p5 p4,K6 p6 p5,bT p2,m p3 p6] (Bl 0 (Lp (S (q [m p7 p2,m p8 p3,u p9 p7 p8] (H t9 .skip (X 0))) (S (Bl 1 (r (m bj p0::m bk p2::m bo p0::m aY p3::j5 bw p0 bJ p3 bP bQ (j5 bM p0 bI p2 bG bR [x b8 1 bj bk,s 1 b8 bQ,x bV 1 bo aY,s 1 bV bR])))) (r [m aO p2,zR aQ aO,m aZ p3,K6 aX aZ,m p2 aQ,m p3 aX]))))))
def Ya:aE:=.code 25 [.tmp p2] (q [f p2] (S (q [bT p3] (Bl 0 (Lp (S (q [m p4 p3,m p5 p0,O p6 (.ku t5),u p7 p4 p6] (H t7 .skip (X 0))) (S (Bl 1 (q [m aO p0,m aQ p3,O aZ (.mH fi kM),oR aX 3 aZ,c bj 61 [lI,(I 3 33),(I 3 126)],no bk bj,m bo bk,ez aY p0 bo,ez bw p3 bo,G bJ (.mH jo jp) bo false,uy bP 4 bJ 34 bo,o bQ bo bP] (H ql (q [f p2] .ret) .skip))) (r (gO p8 p3 p9 []))))))) (q [m bM p0,O bI (.ku na),c bG 61 [mw,i1,(I 3 40)],m p2 bG] .ret)))
def Yb:aE:=.code 139 [.tmp p4] (q [b p2 58 p0,f p4] (S (q (eF p7 p2 p8 [c p9 124 [t8],no aO p9]) (H fi (q [f p4] .ret) .skip)) (q (eF aQ p2 aZ [a aX 4 p2,l bj aX,c bk 125 [km,jn],Eb p5,s 8 p5 bk]) (S (q (a bo 1 p5::l aY bo::a bw 1 p2::l bJ bw::oP bP bJ::O bQ (.eq true .bool jo kN)::m bM bQ::dl bI 1 p2 bM bG (G bR (.arith .lss 3 rp (J 3 0)) bM false::o b8 bM bR::m bV b8::dl cC 1 p2 bV ct (ez b7 p1 bV::G cQ (.arith .geq 3 nZ vM) bV false::o cR bV cQ::m cD cR::dl cY 2 p2 cD cB [ez bZ p1 cD,vQ dc 126 cB bZ cD,ma db dc cD,o di cD db]))) (H rA (q [f p4] .ret) .skip)) (S (q (a du 3 p5::l dg du::m cS dg::eo de 3 p2 cS dw (eo dC 4 p5 cS dh (eo cK 5 p5 cS dD (xA dN 61 dw dh dD cS::rC dT dN cS::y ey cS dT::m dp ey::dl cU 3 p5 dp dX (ma eC dX dp::ez dU eC dp::eo eP 3 p2 dU dY (G ef (.arith .neq 3 rB i0) dU true::oQ eQ dU ef dp::o eg dp eQ::m eD eg::dl ff 4 p2 eD fw (G eR (.arith .neq 3 zL i0) eD false::ez eI eR eD::eo gu 0 p2 eI eh (G fH (.arith .eql 4 zN (I 4 13)) eI true::K7 fI fH eI::eo fW 4 p2 fI fP [G eZ (.arith .eql 3 xy i1) fI true,G fX (.pick sR BH cF) eI true,rC fg fX eI,oQ gN eI fg eD,o fY eD gN])))))))) (H BI (q [f p4] .ret) .skip)) (q [a gX 2 p5,l fJ gX,m p6 fJ] (S (q [a iz 6 p5,l iA iz] (Bl 0 (q [e jY iA 0,m iX jY] (H HP (q [a iY 5 p2,l k7 iY,O mq (.il .neq Ny (C (.aC [])))] (H D7 (q [f p4] .ret) .skip)) (q [e lb iA 1,m kL lb] (H D8 (q [a jF 5 p2,l ki jF,c kj 127 [WV],no mY kj] (H HR (q [f p4] .ret) .skip)) (q [e lf iA 3,m mZ lf] (H WW (q [a m8 5 p2,l po m8,c pX 128 [WZ],m p6 pX] (q [m nW p6,e oI nW 0] (H HS (q [f p4] .ret) .skip))) (q [a ic 5 p2,l io ic,c iE 82 [Nx],no jE iE] (H D5 (q [f p4] .ret) .skip)))))))))) (S (Bl 1 (q (eF jh p2 mr (cw oJ 4 mr 15 mu (dl pp 0 p2 mu lG [uy oK 4 lG 18 mu,o oM mu oK,m lg oM]))) (H HT (q (dq lH 2 p2 l8 lh [O nX (.arith .leq 3 NE i6),m p4 nX]) .ret) (q [m m9 p6,O pq (.arith .eql 3 W5 (J 3 0)),m pY pq] (H W4 (q [kl p4] .ret) (q [m qf p6,O pt (.arith .eql 3 NG (J 3 1)),m pZ pt] (H W7 (q (dq sI 2 p2 ul qh [c li 61 [W8,i1,i7],m p4 li]) .ret) (q [m sJ p6,O qi (.arith .eql 3 NK (J 3 2)),m um qi] (H NJ (q (dq sK 2 p2 rm xl [O uo (.arith .leq 3 Ie i6),m p4 uo]) .ret) .skip))))))))) (q (dq oN 2 p2 vI zG [m zH p6,O uq (.arith .eql 3 If Xd),m p4 uq]) .ret)))))))))
def Yc:aE:=.code 199 [.tmp p4] (q [b p2 24 p0,b p3 54 p1,f p4] (q [bT p5,bT p6] (S (q (eF aZ p3 aX []) (Bl 0 (q (cw bk 4 aX 61 bj []) (H jn (r [k p6 1]) (S (q (cw aY 4 aX 62 bo []) (H jZ .skip (q (cw bw 4 aX 63 bo []) (H jZ .skip (r (cw bJ 4 aX 65 bo [])))))) (H jZ (r [k p5 1,k p6 2]) (q (cw bQ 4 aX 66 bP []) (H kN (q (dq bM 3 p3 bI bG [m p6 bG]) (S (q [bT p7] (Bl 1 (Lp (S (q (m bR p7::dq b8 3 p3 bV cC [u ct bR cC]) (H nZ .skip (X 1))) (S (Bl 2 (q (fK cR 3 p3 cD cY p7 cB 1 [l bZ cB,m p8 bZ]) (S (q (m dc p8::oR db 3 dc::c di 61 [sN,i1,i3]::no du di::m dg du::ez cS p8 dg::uy de 4 cS 3 dg::ez dw de dg::K7 dC p7 dw::eo dh 3 p3 dw cK [kO dD cK dw,G dN (.arith .sub 3 uv i1) dw true,G dT (.arith .lss 3 ut vO) dw true,oQ ey dw dT dg,o dp dg ey]) (H zJ (q [f p4] .ret) .skip)) (r [m cU p5,m dX p8,O eC (.arith .sub 4 (I 4 3) sP),oR dU 3 eC,rD eP 3 cU dU,m p5 eP])))) (r (gO b7 p7 cQ []))))))) (q [m dY p6,c ef 61 [rB,i1,i4],no eQ ef] (H sQ (q [f p4] .ret) .skip)))) (q (cw eD 4 aX 67 eg []) (H BE (r [k p6 3]) (q (cw fw 4 aX 68 ff []) (H zK (r (dq eR 1 p3 eI gu [O eh (.pF true [i1,zM]),m p5 eh])) (S (q (cw fI 4 aX 69 fH []) (H xx .skip (r (cw fW 4 aX 21 fH [])))) (H xx (r [k p5 1]) (q (cw eZ 4 aX 70 fP []) (H xy .skip (q [f p4] .ret))))))))))))))))) (S (q (dq fX 1 p3 fg gN (m fY p5::uA gX gN fY::m fJ gX::dl iz 4 p3 fJ iA (mz ic iA fJ::ez io p6 fJ::G iE (.arith .neq 3 HO Nx) fJ false::o jE fJ iE::m iX jE::dl jY 1 p3 iX iY (dl k7 2 p2 iX mq (vQ kL 126 iY mq iX::ma lb kL iX::o jF iX lb::m ki jF::dl kj 0 p3 ki mY (G mZ (.arith .neq 4 HR (I 4 66)) ki false::ez lf mZ ki::eo m8 3 p3 lf po (kO pX po lf::G nW (.arith .gtr 3 D9 i0) lf true::oQ oI lf nW ki::o lg ki oI::m jh lg::dl mr 0 p3 jh oJ (uy mu 4 oJ 63 jh::dl pp 2 p3 jh lG (G oK (.il .neq HV (C (.aC []))) jh false::G oM (.eq true .bool W2 HW) jh false::o lH jh oM::m l8 lH::dl lh 2 p3 l8 nX (G pY (.il .neq NF (C (.aC []))) l8 false::ez m9 pY l8::eo pq 2 p3 m9 pZ [BQ qf 82 pZ m9,rC pt qf m9,oQ sI m9 pt l8,o ul l8 sI])))))))))) (H NI (q [f p4] .ret) .skip)) (S (q [bT p9] (Bl 3 (Lp (S (q (m qh p9::dq li 4 p3 um sJ [u qi qh sJ]) (H HZ .skip (X 3))) (S (Bl 4 (q (fK xl 4 p3 uo oN p9 vI 2 [ld zG 2 vI,vR aO,s 2 aO zG]) (S (q (eF zH aO uq (dq Bp 3 p2 DL Bq (K6 zI Bq::c Br 61 [NL,i1,Xe]::no Hl Br::m vJ Hl::dl DM 1 aO vJ Bs (dl Hm 2 p2 vJ sL [vQ Bt 126 Bs sL vJ,ma Bu Bt vJ,o Hn vJ Bu])))) (H Xi (q [f p4] .ret) .skip)) (q (a Ho 3 p2::l Bv Ho::eF DN aO DO (x DP 7 Bv DO::dq Hp 0 DP M0 Hq [m aQ Hq])) (q (eF Hr p3 Bw (cw vK 4 Bw 67 vL (eo DQ 1 aO vL Bx (kO DR Bx vL::G Hu (.arith .gtr 3 Xk i0) vL true::K7 xm Hu vL::ez DS p9 xm::G DT (.arith .eql 3 Xl i2) xm false::ez xn DT xm::K7 DU aQ xn::vS DV DU xn::oQ Hv xn DV xm::G DW (.pick NM cT Xn) vL true::y DX vL DW::m qj DX::dl DY 0 p3 qj By (uy M5 4 By 67 qj::ez Bz M5 qj::K7 M6 p9 Bz::G Hw (.arith .eql 3 t183 i2) Bz true::oQ Hy Bz Hw qj::ma M7 Hy qj::ez qk M7 qj::K7 M8 aQ qk::eo M9 1 aO qk DZ [kO M' DZ qk,G Na (.fZ 5 t3) qk true,K7 Nb p9 qk,G' (some Nc) (.call (C (.func 129 [] [])) [Xs,Xt]) qk true [] [⟨DZ,.aW Xq,some (qk,true)⟩],G Nf (.arith .add 3 Xr Xu) qk true,G Hz (.arith .neq 3 Xp Xv) qk true,oQ Ng qk Hz qj,o Nh qj Ng]))))) (H Xw (q [f p4] .ret) .skip)))))) (r (gO sK p9 rm []))))))) (q [kl p4] .ret))))))
def Yd:aE:=.code 107 [.tmp p6] (q [b p3 24 p0,nl p6] (q (fK aX 3 p3 bj bk p1 bo 7 [a aY 2 bo,ld bw 5 aY,O bJ (.buildSlice 139 0 [v0,.aP] []),Ih p7,s 5 p7 bw,m p8 bJ]) (S (q (eF bP p7 bQ []) (Bl 0 (q (cw bI 4 bQ 67 bM []) (H na (q [sS bG,m bR p2,K4 b8 bG bR,m bV p1,O cC (.arith .mul 3 i2 rq),pz ct cC,K4 b7 b8 ct,m p9 b7] (q [sS cQ,m cR p2,K4 cD cQ cR,m cY p1,O cB (.arith .mul 3 i2 pu),zR bZ cB,pz dc bZ,K4 db cD dc,m aO db] (q (m di p8::a du 4 p7::l dg du::O cS (.dk 2 px i0)::eF de cS dw (m dC p9::BO dh dw dC::a cK 4 p7::l dD cK::O dN (.dk 2 uv i1)::eF dT dN ey [m dp aO,BO cU ey dp,O dX (.buildSlice 139 2 [v0,.aP] [(0,2,t46),(2,2,t53)]),O eC (.append 139 32 2 [v0,.aP] false rA sP),m p6 eC])) .ret))) (q (cw eP 4 bQ 68 dU []) (H BD (S (q [m dY p2,z ef dY,e eQ ef 0] (H sQ (q [m eg p8,m p6 eg] .ret) .skip)) (q [m eD p2,m ff p2,z fw ff,K6 eR fw,x eI 1 eD eR,l gu eI,m aQ gu] (q (m eh p8::a fH 3 p3::l fI fH::m fW aQ::O fP (.arith .quo 3 vP i2)::x eZ 7 fI fP::a fX 2 eZ::a fg 4 fX::l gN fg::O fY (.dk 2 HM i2)::eF gX fY fJ [m iz p2,m iA p2,z ic iA,K6 io ic,zS iE 3 1 iz io,BO jE fJ iE,O iX (.buildSlice 139 1 [v0,.aP] [(0,2,D5)]),O jY (.append 139 32 2 [v0,.aP] false zN HP),m p6 jY]) .ret))) .skip)))))) (S (q [bT aZ] (Bl 1 (Lp (S (q (m iY aZ::dq k7 4 p7 mq kL [u lb iY kL]) (H HQ .skip (X 1))) (S (Bl 2 (r (m kj p8::fK mY 4 p7 mZ lf aZ m8 2 (eF po m8 pX [m nW p2,BO oI pX nW,O lg (.buildSlice 139 1 [v0,.aP] [(0,2,HS)]),O jh (.append 139 32 2 [v0,.aP] false NA HT),m p8 jh])))) (r (gO jF aZ ki []))))))) (q [m mr p8,m p6 mr] .ret)))))
def Ye:aE:=.code 90 [] (q (l aQ p1::nc aZ aQ::dq aX 4 aZ bj bk [bT bo]) (Bl 0 (Lp (q [u aY bo bk] (S (H jo .skip (X 0)) (S (Bl 1 (q [x bw 1 bj bo,l bJ bw,m p4 bJ] (q (kn bP p1 bQ bM 0 (fK bI 3 bM bG bR p4 b8 7 [ld bV 7 b8,K1 p5,s 7 p5 bV])) (q [l cC p1,m ct p4,c b7 37 [t28,nZ],m p6 b7] (q (eF cQ p5 cR [m p7 cR]) (S (q [m cD p4,e cY cD 0] (H pu (r [l cB p1,c bZ 89 [ru],m p7 bZ]) .skip)) (S (q [m dc p0,m db p6,O di (.dk 1 sN i0),l du di,m dg p7,c cS 78 [sO,(J 3 0),px],nj de dc cS,no dw de] (H py .ret .skip)) (S (q (dq dC 1 p5 dh cK [bT dD]) (Bl 2 (Lp (q [u dN dD cK] (S (H vO .skip (X 2)) (S (Bl 3 (q [m dT dD,x ey 6 dh dD,ld dp 6 ey,BL p9,m p8 dT,s 6 p9 dp] (q [m cU p6,m dX p8,zR eC dX,x dU 1 cU eC,l eP dU,m aO eP] (S (q [a dY 1 p9,l ef dY,O eQ (.arith .neq 3 xu (J 3 0))] (H sQ (r [m eg aO,a eD 1 p9,l ff eD,pz fw ff,c eR 78 [BE,(J 3 0),zL],m aO eR]) .skip)) (q (m eI p0::j5 gu p6 eh p8 fH fI [nj fW eI fI,no fP fW,m eZ fP,ez fX p0 eZ,ez fg aO eZ,G gN (.call xz [zO]) eZ false,ma fY gN eZ,o gX eZ fY]) (H zP .ret .skip)))))) (r (gP fJ dD [])))))))) (q (m iz p0::m iA p6::dq ic 1 p5 io iE [x jE 1 iA iE,l iX jE,nj jY iz iX,no iY jY]) (H D6 .ret .skip)))))))))) (r (gP k7 bo []))))))))
def Yf:aE:=.code 18 [.tmp p2] (q [nl p2] (S (q [m p4 p0,nc p5 p4,a p6 0 p5,a p7 1 p6,l p8 p7,bT p9] (Bl 0 (Lp (q [u aO p9 p8] (S (H fi .skip (X 0)) (S (Bl 1 (q [m aQ p9,m p3 aQ] (r [m aZ p2,m aX p3,pz bj aX,K4 bk aZ bj,m p2 bk]))) (r (gP bo p9 [])))))))) (q [m aY p2,m p2 aY] .ret)))
def Yg:aE:=.code 48 [.tmp p4] (q [nl p4] (S (q [m p9 p1,O aO (.arith .lss 3 t9 i0)] (H fi (r [O aQ (.lw 9 (C (.aC [99,97,110,110,111,116,32,98,101,32,110,101,103,97,116,105,118,101]))),N (.oW)]) .skip)) (q (m aX p0::z bj aX::oR bk 7 bj::m bo p1::oR aY 7 bo::c bw 131 [l9,jo]::oS aZ bw bJ bP p5 p6 []) (S (q [m bQ p5,O bM (.arith .gtr 7 ql (I 7 0)),m bI bM,ez bG p6 bI,ng bR 7 bG 9223372036854775807 bI,o b8 bI bR] (H nf (r [O bV (.lw 9 (C (.aC [116,104,101,32,114,101,115,117,108,116,32,111,102,32,40,108,101,110,40,120,41,32,42,32,99,111,117,110,116,41,32,111,118,101,114,102,108,111,119,115]))),N (.oW)]) .skip)) (q [m cC p6,oR ct 3 cC,O b7 (.jr 3 8 1 [v0] nZ nZ),m p7 b7] (q [m cQ p7,m cR p0,O cD (.copy 1 my sM),m p8 cD] (S (Bl 0 (Lp (S (q [m cY p8,m cB p7,z bZ cB,u dc cY bZ] (H n6 .skip (X 0))) (Bl 1 (r [m db p8,m di p7,m du p8,O dg (.gR 3 1 rA (some sO) none none),m cS p7,m de p8,zS dw 3 1 cS de,O dC (.copy 1 px py),rD dh 3 db dC,m p8 dh]))))) (q [m cK p7,m p4 cK] .ret))))))))
def Yh:aE:=.code 19 [.tmp p4] (q [bT p4] (S (q [m p6 p0,z p7 p6,bT p8] (Bl 0 (Lp (q [u p9 p8 p7] (S (H t9 .skip (X 0)) (S (Bl 1 (q [m aO p8,m p5 aO] (q (m aQ p1::j5 aZ p0 aX p5 bj bk [nj bo aQ bk]) (H jZ (q [m aY p5,m p4 aY] .ret) .skip)))) (r (gP bw p8 [])))))))) (q [O p4 (.bg (J 3 0))] .ret)))
def Yi:aE:=.code 19 [.tmp p4,.tmp p5] (q [b p2 24 p0,nl p4,bT p5] (q (ld p8 4 p2::c p9 140 [t8]::oS p7 p9 aO aQ p6 p5 []) (S (q [m aZ p5,xC aX aZ] (H lI (q [m bj p4,m bk p5,m p4 bj,m p5 bk] .ret) .skip)) (q [m bo p1,m aY p6,nj bw bo aY,m p4 bw,bT p5] .ret))))
def Yj:aE:=.code 19 [.tmp p2] (q [b p1 161 p0,nl p2] (q (kn p6 p1 p7 p8 0 (dq p9 3 p8 aO aQ [BP aZ aQ,oO p3 61,s 1 p3 aZ])) (q [oO p4 42] (q [O p5 (.alloc 195 [.nilFunc])] (q [O aX (.iG 141 [] [t3,t1,t5,t4]),s 1 p5 aX] (q [l bj p5,O bk (.call jn [i0])] (q [l bo p4,c aY 143 [jZ]] (q [l bw p4,m p2 bw] .ret))))))))
def Yk:aE:=.code 19 [.tmp p4,.tmp p5] (q [b p2 24 p0,nl p4,bT p5] (q (ld p8 4 p2::c p9 140 [t8]::oS p7 p9 aO aQ p6 p5 []) (S (q [m aZ p5,xC aX aZ] (H lI (q [m bj p4,m bk p5,m p4 bj,m p5 bk] .ret) .skip)) (q [m bo p1,m aY p6,nj bw bo aY,m p4 bw,bT p5] .ret))))
def Yl:aE:=.code 85 [.tmp p2] (q [b p1 161 p0,nl p2] (q (kn bj p1 bk bo 0 (dq aY 3 bo bw bJ [O bP (.jr 197 8 1 [.cL] nY nY),oO p3 196,s 1 p3 bP])) (q [l bQ p1,c bM 114 [ql],m p4 bM] (S (q [m bI p4,z bG bI,bT bR] (Bl 0 (Lp (q [u b8 bR bG] (S (H nf .skip (X 0)) (S (Bl 1 (q [x bV 1 bI bR,l cC bV,m p6 cC] (r [l ct p3,m b7 p6,O cQ (.j7),x cR 1 ct b7,s 1 cR cQ]))) (r (gP cD bR [])))))))) (S (q [BR p7,qp p7] (Bl 2 (Lp (S (q [l cY p7] (H pu .skip (X 2))) (S (Bl 3 (q [N (.store 1 t7 cF)] (q [m cB p4,c bZ 144 [ru]] (Bl 4 (.rangeFunc xp [dc,db] (r [m p9 db]) (Bl 5 (r [l di p1,m du p9,l dg p3,c cS 145 [rA,sO,px],m de cS,K3 dw p7 de,o dC de dw,s 1 p7 dC]))))))) (q [l dh p7] (r [BR p7,s 1 p7 dh]))))))) (q (kn cK p1 dD dN 0 (dq dT 3 dN ey dp [O cU (.jr 42 24 1 [.aP] zJ zJ),m aO cU])) (S (q [l dX p3,z eC dX,bT dU] (Bl 6 (Lp (q [u eP dU eC] (S (H uw .skip (X 6)) (S (Bl 7 (q [m dY dU,x ef 1 dX dU,l eQ ef,m aQ dY,m aZ eQ] (q (kn eg p1 eD ff 0 [a fw 2 ff,l eR fw,bT eI]) (Bl 8 (Lp (q [u gu eI eR] (S (H zM .skip (X 8)) (S (Bl 9 (q [m eh eI,m aX eh] (q [m fH aZ,m fI aX,O fW (.lookup .int (.bool false) false xx sR)] (H vP (r (m fP aO::m eZ aQ::j5 fX aO fg aQ gN fY [m gX aX,pz fJ gX,K4 iz fY fJ,x iA 1 fP eZ,s 1 iA iz])) .skip)))) (r (gP ic eI [])))))))))) (r (gP io dU [])))))))) (q [m iE aO,m p2 iE] .ret))))))))
def Ym:aE:=.code 82 [] (q (kn p9 p1 aO aQ 0 (a aZ 3 aQ::l aX aZ::l bj p2::x bk 7 aX bj::a bo 2 bk::ld aY 5 bo::kn bw p1 bJ bP 5 [l bQ bP,l bM p2,x bI 1 bQ bM,l bG bI,Ih p4,M (.store 5 t4 jo) [] [⟨bG,.aW mw,none⟩,⟨bM,.aW t2,none⟩,⟨bQ,.aW kN,none⟩,⟨bw,.aW t1,none⟩],m p5 bG])) (q (eF bR p4 b8 []) (Bl 0 (q (cw cS 4 b8 67 dg []) (H px (q (m de p0::a dw 4 p4::l dC dw::O dh (.dk 2 ut i0)::eF cK dh dD [m dN p5,l ey p2,O dp (.build [v0,(.bool false)] [(0,1,t51),(1,1,cT)]),O cU (.buildSlice 168 1 [v0,(.bool false)] [(0,2,zJ)]),R dT (.call (C (.func 118 [] [])) [vO]) [cU] [⟨ey,.aW t2,none⟩,⟨dD,.aW uu,none⟩,⟨dC,.aW py,none⟩],R dX (.append 168 16 2 [v0,(.bool false)] false BB t53) [] [⟨dD,.aW uu,none⟩,⟨dC,.aW py,none⟩],mA eC de dD dX]) (H BC (r (m dU p0::a eP 4 p4::l dY eP::O ef (.dk 2 rB i1)::eF eQ ef eg [m eD p5,l fw p2,O eR (.build [v0,(.bool false)] [(0,1,zL),(1,1,cF)]),O eI (.buildSlice 168 1 [v0,(.bool false)] [(0,2,BF)]),R ff (.call (C (.func 118 [] [])) [xw]) [eI] [⟨fw,.aW t2,none⟩,⟨eg,.aW sQ,none⟩,⟨dY,.aW uw,none⟩],R gu (.append 168 16 2 [v0,(.bool false)] false zK BG) [] [⟨eg,.aW sQ,none⟩,⟨dY,.aW uw,none⟩],mA eh dU eg gu])) .skip)) (q (cw fI 4 b8 68 fH []) (H xx (q [m fW p5,z fP fW,K6 eZ fP,m p6 eZ] (r [m fX p0,l fg p1,l gN p2,m gX p5,m fJ p6,zS iz 168 2 gX fJ,c fY 119 [zO,HM],mA iA fX fY iz])) (q (dq bV 4 p4 cC ct [bT b7]) (Bl 1 (Lp (q [u cQ b7 ct] (S (H my .skip (X 1)) (S (Bl 2 (q [x cR 2 cC b7,ld cD 2 cR,vR p8,s 2 p8 cD] (q (m cY p0::eF cB p8 bZ [m dc p5,mA db cY bZ dc,no di db]) (H rA .ret .skip)))) (r (gP du b7 [])))))))))))))))
def Yn:aE:=.code 9 [.tmp p2] (q [nl p2] (q [m p3 p0,m p4 p0,z p5 p4,m p6 p0,z p7 p6,O p8 (.gR 168 2 t3 none (some t5) (some t7)),m p2 p8] .ret))
def Yo:aE:=.code 21 [.tmp p4] (q [bT p4] (q (m p5 p0::nc p6 p5::a p7 0 p6::a p8 3 p7::l p9 p8::m aO p0::m aQ p1::R aZ (.call (C (.func 146 [] [])) [fi,kM]) [] [⟨p9,.aW t8,none⟩]::O aX (.part false 0 1 km)::x bj 7 p9 aX::a bk 2 bj::a bo 4 bk::l aY bo::O bw (.dk 2 jo i2)::eF bJ bw bP [m p4 bP]) .ret))
def Yp:aE:=.code 4 [.tmp p2] (q [b p1 123 p0,uz p2] (q [qq p3 147 p1,m p2 p3] .ret))
def Yq:aE:=.code 9 [.tmp p2] (q [O p2 (.bg (C .cL))] (S (q [m p3 p0,O p4 (.eq false .map t3 (C .cL))] (H t4 (q [O p2 (.bg (C .cL))] .ret) .skip)) (q [m p5 p0,O p6 (.lw 82 t5),c p7 148 [t6],O p8 (.typeAssert 82 .cL false t7),m p2 p8] .ret)))
def Yr:aE:=.code 19 [] (q [l p4 p1,z p5 p4,K6 p6 p5,m p3 p6] (Bl 0 (Lp (S (q [m p7 p3,oP p8 p7] (H t8 .skip (X 0))) (S (Bl 1 (q [m aQ p0,m aZ p3,l aX p1,m bj p3,x bk 6 aX bj,ld bo 6 bk,mA aY aQ aZ bo,no bw aY] (H jp .ret .skip))) (r [m p9 p3,K6 aO p9,m p3 aO]))))))
def Ys:aE:=.code 20 [.tmp p2] (q [f p2] (S (q [m p3 p0] (Bl 0 (S (q (cw p5 4 p3 21 p4 []) (H t4 .skip (q (cw p6 4 p3 60 p4 []) (H t4 .skip (q (cw p7 4 p3 61 p4 []) (H t4 .skip (q (cw p8 4 p3 62 p4 []) (H t4 .skip (q (cw p9 4 p3 63 p4 []) (H t4 .skip (q (cw aO 4 p3 65 p4 []) (H t4 .skip (q (cw aQ 4 p3 66 p4 []) (H t4 .skip (q (cw aZ 4 p3 67 p4 []) (H t4 .skip (q (cw aX 4 p3 68 p4 []) (H t4 .skip (q (cw bj 4 p3 69 p4 []) (H t4 .skip (r (cw bk 4 p3 70 p4 [])))))))))))))))))))))) (H t4 (q [f p2] .ret) .skip)))) (q [m bo p0,c aY 149 [jZ],O bw (.part false 0 1 jo),O bJ (.il .neq jp (C (.aC []))),m p2 bJ] .ret)))
def Yt:aE:=.code 14 [.cell p4 true 8] (q [Eb p4] (S (q (m p5 p0::cw p6 4 p5 13 p7 [K7 p8 p1 p7,G p9 (.arith .eql 3 t8 i1) p7 true,y aO p7 p9]) (H fi (q [O aQ (.build [(.aC []),(.bool false),v0,(.bool false),v0,v0,v0,v0] [(0,1,(C (.aC [102,114,101,101]))),(1,1,cT),(2,1,(J 3 2)),(3,1,cF),(4,1,i0),(5,1,i0),(6,1,i2),(7,1,i0)]),s 8 p4 aQ] .ret) .skip)) (q [m aZ p0,c aX 149 [km],s 8 p4 aX] .ret)))
def Yu:aE:=.code 20 [.tmp p4] (q [f p4] (S (q [bT p5] (Bl 0 (Lp (S (q [m p6 p5,m p7 p0,z p8 p7,u p9 p6 p8] (H t9 .skip (X 0))) (S (Bl 1 (q (j5 aZ p0 aX p5 bj bk [m bo p1,K6 aY bo,c bw 61 [l9,i0,jo],no bJ bw]) (H nY (q [f p4] .ret) .skip))) (r (gO aO p5 aQ []))))))) (q [kl p4] .ret)))
def Yv:aE:=.code 25 [.tmp p2] (q [f p2] (S (q [bT p3] (Bl 0 (Lp (S (q [m p4 p3,m p5 p0,O p6 (.ku t5),u p7 p4 p6] (H t7 .skip (X 0))) (S (Bl 1 (q [m aO p0,m aQ p3,O aZ (.mH fi kM),oR aX 3 aZ,c bj 61 [lI,(I 3 32),(I 3 126)],no bk bj,m bo bk,K7 aY p0 bo,K7 bw p3 bo,G bJ (.mH jo jp) bo true,G bP (.arith .neq 4 nY (I 4 10)) bo true,y bQ bo bP] (H ql (q [f p2] .ret) .skip))) (r (gO p8 p3 p9 []))))))) (q [m bM p0,O bI (.ku na),O bG (.arith .leq 3 mw (I 3 200)),m p2 bG] .ret)))
def Yw:aE:=.code 24 [.tmp p2] (q [bT p2] (S (q [m p3 p0] (Bl 0 (S (q [K2 p5 p3 110 101 103,m p4 p5] (H t4 .skip (q [K2 p6 p3 110 111 116,m p4 p6] (H t4 .skip (q [K8 p7 p3 115 105 122 101,m p4 p7] (H t4 .skip (q [K8 p8 p3 115 104 111 119,m p4 p8] (H t4 .skip (r [K8 p9 p3 114 101 97 100,m p4 p9]))))))))) (H t4 (q [k p2 1] .ret) (S (q [O aQ (.il .eql t3 (C (.aC [97,100,100]))),m aO aQ] (H fi .skip (q [K2 aZ p3 115 117 98,m aO aZ] (H fi .skip (q [K2 aX p3 109 117 108,m aO aX] (H fi .skip (q [K2 bj p3 100 105 118,m aO bj] (H fi .skip (q [K2 bk p3 109 111 100,m aO bk] (H fi .skip (q [ux bo p3 108 116,m aO bo] (H fi .skip (q [ux aY p3 108 101,m aO aY] (H fi .skip (q [ux bw p3 101 113,m aO bw] (H fi .skip (q [K8 bJ p3 106 111 105 110,m aO bJ] (H fi .skip (q [K8 bP p3 98 121 116 101,m aO bP] (H fi .skip (r [K8 bQ p3 115 97 109 101,m aO bQ]))))))))))))))))))))) (H fi (q [k p2 2] .ret) (q [K2 bI p3 99 117 116,m bM bI] (H na (q [k p2 3] .ret) .skip)))))))) (q [bT p2] .ret)))
def Yx:aE:=.code 38 [.tmp p4] (q [b p2 54 p0,bT p4] (S (Bl 0 (S (q (eF p6 p2 p7 (cw p8 4 p7 65 p9 [K7 aO p1 p9,vS aQ aO p9,y aZ p9 aQ,m p5 aZ])) (H t5 .skip (q (eF aX p2 bj (cw bk 4 bj 67 bo [K7 aY p1 bo,G bw (.arith .eql 3 jo i1) bo true,y bJ bo bw,m p5 bJ])) (H t5 .skip (r (eF bP p2 bQ (cw bM 4 bQ 66 bI (K7 bG p1 bI::eo bR 3 p2 bI b8 (kO bV b8 bI::G cC (.arith .lss 3 rp rq) bI true::y ct bI cC::m b7 ct::eo cQ 3 p2 b7 cR (rE cD p1 b7 cY cR cB [G bZ (.arith .eql 4 ru (I 4 2)) b7 true,y dc b7 bZ,m p5 dc])))))))))) (H t5 (q [k p4 1] .ret) .skip))) (q [bT p4] .ret)))
def Yy:aE:=.code 30 [.tmp p4,.tmp p5] (q [O p4 (.bg (I 7 0)),O p5 (.bg (I 7 0))] (S (H cF (q (m aQ p0::oR aZ 6 aQ::m aX p1::oR bj 6 aX::c bk 150 [km,jn]::oS aO bk bo aY p6 p7 []) (q [m bw p6,oR bJ 7 bw,m bP p7,oR bQ 7 bP,m p4 bJ,m p5 bQ] .ret)) .skip) (q (m bI p0::m bG p1::c bR 151 [mw,rp]::oS bM bR b8 bV p8 p9 []) (q [m cC p8,m ct p9,m p4 cC,m p5 ct] .ret))))
def Yz:aE:=.code 18 [.tmp p2,.tmp p3] (q [b p1 24 p0,xB p2,bT p3] (S (Bl 0 (q [ld p6 4 p1,c p7 171 [t6],m p5 p7] (H t5 (q [xB p2,k p3 5] .ret) (q [ld p9 4 p1,c aO 172 [t9],no aQ aO,m p8 aQ] (H t8 (q [xB p2,k p3 4] .ret) .skip))))) (q [ld aZ 4 p1,c aX 173 [km],m p4 aX] (S (q [m bj p4,c bk 174 [jn],no bo bk] (H jZ (q [xB p2,k p3 9] .ret) .skip)) (q [m aY p4,m p2 aY,bT p3] .ret)))))
def YA:aE:=.code 31 [] (S (q [l p8 p1,m p9 p0,x aO 1 p8 p9,l aQ aO] (H kM .ret .skip)) (q [l aZ p1,m aX p0,x bj 1 aZ aX,qp bj] (S (q [l bk p2,m bo p0,c aY 142 [l9,jZ],z bw aY,bT bJ] (Bl 0 (Lp (q [u bP bJ bw] (S (H kN .skip (X 0)) (S (Bl 1 (q [x bQ 1 aY bJ,l bM bQ,m p7 bM] (r [l bI p3,m bG p7,nj bR bI bG]))) (r (gP b8 bJ [])))))))) (r [l bV p4,m cC p0,pz ct cC,K4 b7 bV ct,s 1 p4 b7]))))
def YB:aE:=.code 16 [.cell p4 false 1] (q [oO p4 42] (S (q [m p6 p0,m p7 p1,c p8 175 [t6,t7]] (Bl 0 (.rangeFunc t8 [p9,aO] (r [m p5 p9]) (Bl 1 (r [l aQ p4,m aZ p5,pz aX aZ,K4 bj aQ aX,s 1 p4 bj]))))) (q [l bk p4,s 1 p4 bk] .ret)))
def YC:aE:=.code 28 [] (q [m p4 p0,z p5 p4,K6 p6 p5,bT p2,m p3 p6] (Bl 0 (Lp (S (q [m p7 p2,m p8 p3,u p9 p7 p8] (H t9 .skip (X 0))) (S (Bl 1 (r (m bj p0::m bk p2::m bo p0::m aY p3::j5 bw p0 bJ p3 bP bQ (j5 bM p0 bI p2 bG bR [x b8 1 bj bk,s 1 b8 bQ,x bV 1 bo aY,s 1 bV bR])))) (r [m aO p2,zR aQ aO,m aZ p3,K6 aX aZ,m p2 aQ,m p3 aX]))))))
def YD:aE:=.code 4 [.tmp p2] (q [b p1 42 p0,uz p2] (q [qq p3 176 p1,m p2 p3] .ret))
def YE:aE:=.code 89 [.cell p6 false 1] (q [b p4 3 p1,b p5 196 p2,BR p6] (q [m bP p0,nc bQ bP,a bM 0 bQ,a bI 3 bM,l bG bI,l bR p4,x b8 7 bG bR,ld bV 7 b8,K1 p7,s 7 p7 bV] (q [O cC (.j7),O p8 (.alloc 232 [.cL]),s 1 p8 cC] (S (q [ld ct 7 p7,c b7 177 [nZ]] (Bl 0 (.rangeFunc vM [cQ,cR] (q [m p9 cQ] (r [m aO cR])) (Bl 1 (r [l cD p8,m cY p9,m cB aO,N (.ju .int rr pu ru)]))))) (q [O bZ (.iG 178 [] [t8,t5,t4,t6]),O aQ (.alloc 234 [.nilFunc]),s 1 aQ bZ] (S (q [ld dc 7 p7,c db 180 [n6]] (Bl 2 (.rangeFunc sN [di,du] (q [m aZ di] (r [m aX du])) (Bl 3 (r [l dg aQ,m cS aZ,m de aX,mA dw dg cS de]))))) (S (q [m dC p0,l dh p4,c cK 142 [ut,t46],z dD cK,bT dN] (Bl 4 (Lp (q [u dT dN dD] (S (H BB .skip (X 4)) (S (Bl 5 (q [x ey 1 cK dN,l dp ey,m bk dp] (.eB 1004))) (r (gP eh dN [])))))))) (S (q (m fI p0::l fW p4::c fP 181 [sR,vP]::oS fH fP eZ fX aY bw []) (q [m fg bw] (H zO (.eB 1005) .skip))) (q [l iY p6,s 1 p6 iY] .ret)))))))))
def YG:aE:=.code 23 [.cell p4 true 2] (q [O p4 (.alloc 168 [v0,(.bool false)])] (q (m p5 p0::nc p6 p5::fK p7 5 p6 p8 p9 p1 aO 1 (l aQ aO::m aZ p0::nc aX aZ::fK bj 5 aX bk bo p1 aY 1 [l bw aY,z bJ bw,K6 bP bJ,x bQ 2 aQ bP,ld bM 2 bQ,s 2 p4 bM])) .ret))
def YH:aE:=.code 19 [] (q [l p4 p1,z p5 p4,K6 p6 p5,m p3 p6] (Bl 0 (Lp (S (q [m p7 p3,oP p8 p7] (H t8 .skip (X 0))) (S (Bl 1 (q [m aQ p0,m aZ p3,l aX p1,m bj p3,x bk 2 aX bj,ld bo 2 bk,mA aY aQ aZ bo,no bw aY] (H jp .ret .skip))) (r [m p9 p3,K6 aO p9,m p3 aO]))))))
def YI:aE:=.code 76 [.cell p2 true 8] (q [Eb p2] (q [k p3 1000000000] (S (q [m p4 p0] (Bl 0 (q (cw p6 4 p4 1 p5 []) (H t5 (q [m p7 p3,O p8 (.unary .neg t7),m p9 p3,O aO (.build [(.aC []),(.bool false),v0,(.bool false),v0,v0,v0,v0] [(0,1,(C (.aC [105,110,116]))),(1,1,cT),(2,1,i0),(3,1,cT),(4,1,t8),(5,1,t9),(6,1,i0),(7,1,i0)]),s 8 p2 aO] .ret) (q (cw aZ 4 p4 2 aQ []) (H kM (q [O aX (.build [(.aC []),(.bool false),v0,(.bool false),v0,v0,v0,v0] [(0,1,(C (.aC [98,111,111,108]))),(1,1,cT),(2,1,i0),(3,1,cT),(4,1,i0),(5,1,i1),(6,1,i0),(7,1,i0)]),s 8 p2 aX] .ret) (q (cw bk 4 p4 3 bj []) (H jn (q [O bo (.build [(.aC []),(.bool false),v0,(.bool false),v0,v0,v0,v0] [(0,1,(C (.aC [116,101,120,116]))),(1,1,cT),(2,1,i0),(3,1,cF),(4,1,i0),(5,1,i0),(6,1,i1),(7,1,i0)]),s 8 p2 bo] .ret) (q [O bw (.arith .eql 4 t4 (I 4 4)),m aY bw] (H jo (q [O bJ (.build [(.aC []),(.bool false),v0,(.bool false),v0,v0,v0,v0] [(0,1,(C (.aC [117,110,105,116]))),(1,1,cT),(2,1,i0),(3,1,cF),(4,1,i0),(5,1,i0),(6,1,i0),(7,1,i0)]),s 8 p2 bJ] .ret) (q (cw bQ 4 p4 11 bP []) (H kN (q [O bM (.build [(.aC []),(.bool false),v0,(.bool false),v0,v0,v0,v0] [(0,1,(C (.aC [102,110]))),(1,1,cT),(2,1,i0),(3,1,cF),(4,1,i0),(5,1,i0),(6,1,i2),(7,1,i0)]),s 8 p2 bM] .ret) (q (cw bG 4 p4 40 bI []) (H mw (q [O bR (.build [(.aC []),(.bool false),v0,(.bool false),v0,v0,v0,v0] [(0,1,(C (.aC [99,108,111,115,101]))),(1,1,cT),(2,1,(J 3 0)),(3,1,cF),(4,1,i0),(5,1,i0),(6,1,i2),(7,1,i0)]),s 8 p2 bR] .ret) (q (cw bV 4 p4 14 b8 []) (H nf (q [O cC (.build [(.aC []),(.bool false),v0,(.bool false),v0,v0,v0,v0] [(0,1,(C (.aC [112,114,105,109]))),(1,1,cT),(2,1,(J 3 0)),(3,1,cF),(4,1,i0),(5,1,i0),(6,1,i3),(7,1,i0)]),s 8 p2 cC] .ret) (q (cw b7 4 p4 15 ct []) (H nZ (q [O cQ (.build [(.aC []),(.bool false),v0,(.bool false),v0,v0,v0,v0] [(0,1,(C (.aC [110,101,119]))),(1,1,cT),(2,1,(J 3 0)),(3,1,cF),(4,1,i0),(5,1,i0),(6,1,i4),(7,1,i0)]),s 8 p2 cQ] .ret) (q (cw cD 4 p4 16 cR []) (H sM (q [O cY (.build [(.aC []),(.bool false),v0,(.bool false),v0,v0,v0,v0] [(0,1,(C (.aC [103,101,116]))),(1,1,cT),(2,1,i1),(3,1,cT),(4,1,i0),(5,1,i5),(6,1,i5),(7,1,i0)]),s 8 p2 cY] .ret) (q (cw bZ 4 p4 17 cB []) (H ru (q [O dc (.build [(.aC []),(.bool false),v0,(.bool false),v0,v0,v0,v0] [(0,1,(C (.aC [112,117,116]))),(1,1,cF),(2,1,i2),(3,1,cT),(4,1,i0),(5,1,i5),(6,1,i5),(7,1,i0)]),s 8 p2 dc] .ret) (q (cw di 4 p4 18 db []) (H sN (q [O du (.build [(.aC []),(.bool false),v0,(.bool false),v0,v0,v0,v0] [(0,1,(C (.aC [99,97,115,101]))),(1,1,cT),(2,1,(J 3 0)),(3,1,cF),(4,1,i0),(5,1,i0),(6,1,i6),(7,1,i0)]),s 8 p2 du] .ret) (q (cw cS 4 p4 13 dg []) (H px (q [O de (.build [(.aC []),(.bool false),v0,(.bool false),v0,v0,v0,v0] [(0,1,(C (.aC [99,97,108,108]))),(1,1,cT),(2,1,(J 3 1)),(3,1,cF),(4,1,i0),(5,1,i0),(6,1,i0),(7,1,i0)]),s 8 p2 de] .ret) (q (cw dC 4 p4 21 dw []) (H py (q [O dh (.build [(.aC []),(.bool false),v0,(.bool false),v0,v0,v0,v0] [(0,1,(C (.aC [116,104,114,111,119]))),(1,1,cF),(2,1,i1),(3,1,cF),(4,1,i0),(5,1,i0),(6,1,i0),(7,1,i0)]),s 8 p2 dh] .ret) (q (cw dD 4 p4 23 cK []) (H uu (q [O dN (.build [(.aC []),(.bool false),v0,(.bool false),v0,v0,v0,v0] [(0,1,(C (.aC [115,112,97,119,110]))),(1,1,cF),(2,1,i1),(3,1,cF),(4,1,i0),(5,1,i0),(6,1,i0),(7,1,i0)]),s 8 p2 dN] .ret) (q (cw ey 4 p4 24 dT []) (H BB (q [O dp (.build [(.aC []),(.bool false),v0,(.bool false),v0,v0,v0,v0] [(0,1,(C (.aC [99,104,97,110]))),(1,1,cT),(2,1,i0),(3,1,cT),(4,1,i1),(5,1,i8),(6,1,i0),(7,1,i0)]),s 8 p2 dp] .ret) (q (cw dX 4 p4 25 cU []) (H t53 (q [O eC (.build [(.aC []),(.bool false),v0,(.bool false),v0,v0,v0,v0] [(0,1,(C (.aC [115,101,110,100]))),(1,1,cF),(2,1,i2),(3,1,cF),(4,1,i0),(5,1,i0),(6,1,i0),(7,1,i0)]),s 8 p2 eC] .ret) (q (cw eP 4 p4 26 dU []) (H BD (q [Ig dY 0 1 114 101 99 118 2 3 4 5 6 7,s 8 p2 dY] .ret) (q (cw eQ 4 p4 31 ef []) (H xu (q [O eg (.build [(.aC []),(.bool false),v0,(.bool false),v0,v0,v0,v0] [(0,1,(C (.aC [121,105,101,108,100]))),(1,1,cF),(2,1,i0),(3,1,cF),(4,1,i0),(5,1,i0),(6,1,i0),(7,1,i0)]),s 8 p2 eg] .ret) (q (cw ff 4 p4 32 eD []) (H xw (q [O fw (.build [(.aC []),(.bool false),v0,(.bool false),v0,v0,v0,v0] [(0,1,(C (.aC [111,117,116]))),(1,1,cF),(2,1,i1),(3,1,cF),(4,1,i0),(5,1,i0),(6,1,i0),(7,1,i0)]),s 8 p2 fw] .ret) (q (cw eI 4 p4 33 eR []) (H BF (q [O gu (.build [(.aC []),(.bool false),v0,(.bool false),v0,v0,v0,v0] [(0,1,(C (.aC [105,110]))),(1,1,cT),(2,1,i0),(3,1,cF),(4,1,i0),(5,1,i0),(6,1,i0),(7,1,i0)]),s 8 p2 gu] .ret) (q (cw fH 4 p4 34 eh []) (H zN (q [O fI (.build [(.aC []),(.bool false),v0,(.bool false),v0,v0,v0,v0] [(0,1,(C (.aC [99,111,108,108,101,99,116]))),(1,1,cF),(2,1,i0),(3,1,cF),(4,1,i0),(5,1,i0),(6,1,i0),(7,1,i0)]),s 8 p2 fI] .ret) (q (cw fP 4 p4 35 fW []) (H vP (q [Ig eZ 0 1 119 101 97 107 2 3 4 5 6 7,s 8 p2 eZ] .ret) .skip)))))))))))))))))))))))))))))))))))))))))))))) (q [m fX p0,c fg 182 [xz],s 8 p2 fg] .ret))))
def YJ:aE:=.code 51 [.tmp p4,.tmp p5] (q [O p4 (.bg (I 7 0)),O p5 (.bg (I 7 0))] (q [m bj p0,O bk (.arith .and 7 jn (I 7 4294967295)),m p6 bk] (q [m bo p0,O aY (.shift .shr jZ (I 7 32)),m p7 aY] (q [m bw p1,O bJ (.arith .and 7 jp (I 7 4294967295)),m p8 bJ] (q [m bP p1,O bQ (.shift .shr kN (I 7 32)),m p9 bQ] (q [m bM p6,m bI p8,O bG (.arith .mul 7 na mw),m aO bG] (q [m bR p7,m b8 p8,O bV (.arith .mul 7 ur nf),m cC aO,O ct (.shift .shr t28 (I 7 32)),rD b7 7 bV ct,m aQ b7] (q [m cQ aQ,O cR (.arith .and 7 my (I 7 4294967295)),m aZ cR] (q [m cD aQ,O cY (.shift .shr rr (I 7 32)),m aX cY] (q [m cB aZ,m bZ p6,m dc p9,O db (.arith .mul 7 xp n6),rD di 7 cB db,m aZ di] (q [m du p7,m dg p9,O cS (.arith .mul 7 sO px),m de aX,rD dw 7 cS de,m dC aZ,O dh (.shift .shr ut (I 7 32)),rD cK 7 dw dh,m p4 cK] (q [m dD p0,m dN p1,O dT (.arith .mul 7 uv vO),m p5 dT] .ret))))))))))))
def YK:aE:=.code 48 [.tmp p2] (q [b p1 24 p0,f p2] (q [bT p3] (S (q (dq p8 3 p1 p9 aO [bT aQ]) (Bl 0 (Lp (q [u aZ aQ aO] (S (H km .skip (X 0)) (S (Bl 1 (q [x aX 7 p9 aQ,ld bj 7 aX,K1 p5,s 7 p5 bj] (q (m bk p3::dq bo 1 p5 aY bw [rD bJ 3 bk bw,m p3 bJ]) (q (a bP 2 p5::dq bQ 4 bP bM bI [bT bG]) (Bl 2 (Lp (q [u bR bG bI] (S (H ur .skip (X 2)) (S (Bl 3 (q [x b8 2 bM bG,ld bV 2 b8,vR p7,s 2 p7 bV] (r (m cC p3::dq ct 1 p7 b7 cQ [rD cR 3 cC cQ,m p3 cR])))) (r (gP cD bG []))))))))))) (r (gP cY aQ [])))))))) (q (dq cB 3 p1 bZ dc (O db (.arith .gtr 3 n6 (I 3 1500))::m di db::dl du 2 p1 di dg [ng cS 3 dg 6000 di,o de di cS,m dw de,ez dC p3 dw,ng dh 3 dC 6000 dw,o cK dw dh,m p2 cK])) .ret))))
def YL:aE:=.code 76 [.tmp p2] (q [b p1 24 p0,f p2] (S (q (eF p6 p1 p7 (c p8 191 [t7]::no p9 p8::m aO p9::dl aQ 2 p1 aO aZ (dl aX 1 p1 aO bj (G bk (.call (C (.func 192 [] [])) [i0,km,jn]) aO false::ma bo bk aO::o aY aO bo::m bw aY::dl bJ 3 p1 bw bP (mz bQ bP bw::G bM (.arith .eql 3 ql i0) bw false::o bI bw bM::m bG bI::dl bR 3 p1 bG b8 (G bV (.dk 7 nf i0) bG false::dl cC 0 bV bG ct [mz b7 ct bG,G cQ (.arith .gtr 3 vM i0) bG false,o cR bG cQ])))))) (H sM (q [f p2] .ret) .skip)) (q [ld cD 4 p1,a cY 2 p1,l cB cY,BP bZ cB,O dc (.build [(.aC []),v0,v0,.aP,.aP] [(0,4,rr),(4,1,xp)]),b db 246 dc,m p3 db] (S (q (dq di 3 p1 du dg [bT cS]) (Bl 0 (Lp (q [u de cS dg] (S (H vN .skip (X 0)) (S (Bl 1 (q [x dw 7 du cS,ld dC 7 dw,K1 p5,s 7 p5 dC] (q (eF dh p5 cK (m dD p3::O dN (.iG 194 [uv] [])::c dT 193 [uu,vO]::no ey dT::m dp ey::dl cU 1 p5 dp dX [ez eC p3 dp,G dU (.iG 196 [BC] []) dp false,vQ eP 195 dX dU dp,ma dY eP dp,o ef dp dY,m eQ ef,ez eg p3 eQ,K5 eD 2 p5 eQ,G ff (.fZ 5 xw) eQ false,vQ fw 197 eg ff eQ,ma eR fw eQ,o eI eQ eR])) (H BG (q [f p2] .ret) .skip)))) (r (gP gu cS [])))))))) (q [m eh p3,nc fH eh,a fI 4 fH,l fW fI,a fP 1 p1,l eZ fP,O fX (.gR 4 1 vP (some BH) none none),c fg 198 [xz,(C (.func 199 [] []))],m p2 fg] .ret)))))
def YM:aE:=.code 79 [.tmp p2] (q [b p1 24 p0,xB p2] (q (ld p8 4 p1::dq p9 3 p1 aO aQ [BP aZ aQ,a aX 3 p1,R bj (.aW lI) [aZ] [],z bk bj,O bo (.jr 252 24 1 [.aP] l9 l9),O aY (.build [(.aC []),v0,v0,.aP,.aP,.aP,(.bool false)] [(0,4,t8),(4,1,km),(5,1,jZ)]),b bw 194 aY,O p3 (.alloc 161 [.ls]),s 1 p3 bw]) (q (kn bJ p3 bP bQ 4 [l bM bQ,O bI (.dk 1 na i0),qp bI]) (q [O bG (.buildSlice 3 1 [v0] [(0,1,i0)]),oO p4 42,s 1 p4 bG] (S (Bl 0 (Lp (S (q [l bR p4,z b8 bR,O bV (.arith .gtr 3 nf i0)] (H rq .skip (X 0))) (Bl 1 (q [l cC p4,O ct (.dk 1 t28 i0),l b7 ct,m p5 b7] (q [l cQ p4,O cR (.gR 3 1 my (some i1) none none),s 1 p4 cR] (q [l cD p3,m cY p5,c cB 175 [rr,pu]] (Bl 2 (.rangeFunc ru [bZ,dc] (q [m p6 bZ] (r [m p7 dc])) (Bl 3 (Bl 4 (q (l di p3::nc du di::fK dg 4 du cS de p6 dw 1 [l dC dw,no dh dC,m db dh]) (H sN (q (kn cK p3 dD dN 4 (l dT dN::m ey p6::kn dp p3 cU dX 5 [l eC dX,m dU p6,m eP p7,x dY 1 dT ey,qp dY,x ef 1 eC dU,s 1 ef eP])) (r [l eQ p4,m eg p6,pz eD eg,K4 ff eQ eD,s 1 p4 ff])) (q (l eR p3::nc eI eR::fK gu 5 eI eh fH p6 fI 1 [l fW fI,m fP p7,c eZ 200 [vP,xy],no fX eZ,m fw fX]) (H zL (r (kn fg p3 gN fY 6 [qp fY])) .skip))))))))))))))) (q [l gX p3,m p2 gX] .ret))))))
def YN:aE:=.code 136 [.cell p2 false 1] (q [b p1 161 p0,BR p2] (S (q (kn aX p1 bj bk 6 [l bo bk]) (H jZ (q [N (.store 1 t2 cF)] .ret) .skip)) (q [l aY p1,l bJ p1,oO p3 256,oO p4 257,R bw (.call (C (.func 201 [] [])) [jo]) [p4,p3] [⟨bJ,.aW t1,none⟩],R bP (.call (C (.func 202 [] [])) [nY]) [p4,p3] [],s 1 p3 bw,s 1 p4 bP] (S (q (kn bQ p1 bM bI 0 (dq bG 3 bI bR b8 [bT bV])) (Bl 0 (Lp (q [u cC bV b8] (S (H t28 .skip (X 0)) (S (Bl 1 (q [m ct bV,x b7 7 bR bV,ld cQ 7 b7,O p5 (.alloc 3 [v0]),K1 p6,s 1 p5 ct,s 7 p6 cQ] (S (q (kn cR p1 cD cY 4 [l cB cY,l bZ p5,x dc 1 cB bZ,l db dc,no di db]) (H rA (X 1) .skip)) (S (q (a du 2 p6::eF dg du cS []) (Bl 2 (q (cw dw 4 cS 68 de []) (H vN (q (l dh p1::l cK p5::c dD 203 [t46,uu]::oS dC dD dN dT p7 p8 []) (q (m ey p8::no dp ey::m cU dp::K3 dX p1 cU::G eC (.nilCheck sP) cU false::K5 dU 0 eC cU::dl eP 3 dU cU dY (ez ef p7 cU::sU eQ 7 dY ef cU::dl eg 0 eQ cU eD (mz ff eD cU::K5 fw 2 p6 cU::dl eR 1 fw cU eI [mz gu eI cU,G eh (.arith .neq 3 zK zM) cU false,o fH cU eh]))) (H xx (q [N (.store 1 t2 cF)] .ret) .skip))) (q (cw fW 4 cS 69 fI []) (H sR (q (kn fP p1 eZ fX 5 [l fg fX,l gN p5,x fY 1 fg gN,l gX fY,z fJ gX,O iz (.arith .gtr 3 HN i0)]) (H zQ (q [N (.store 1 t2 cF)] .ret) .skip)) .skip)))))) (q [ld iA 7 p6,c ic 180 [BJ]] (Bl 3 (.rangeFunc HO [io,iE] (q [m p9 io] (r [m aO iE])) (Bl 4 (q [l jE p4,m iX p9,x jY 2 jE iX,ld iY 2 jY,O aQ (.alloc 260 [v0,v0]),s 2 aQ iY] (q (eF k7 aQ mq (l kL p5::O lb (.arith .eql 3 D7 D8)::m jF lb::eo ki 1 aQ jF kj [K7 mY aO jF,G mZ (.arith .lss 3 NA HR) jF true,y lf jF mZ,m aZ lf])) (q (m m8 p9::kn po p1 pX nW 0 (a oI 1 nW::l lg oI::O jh (.arith .geq 3 WY HT)::m mr jh::K7 oJ aZ mr::rC mu oJ mr::y pp mr mu::m lG pp::eo oK 0 aQ lG oM (BK lH p5 lG::G l8 (.arith .eql 3 NC ND) lG true::K7 lh l8 lG::K3 nX p1 lh::G pY (.nilCheck NF) lh false::dl m9 4 pY lh pq (dl pZ 0 aQ lh qf (sU pt 1 pq qf lh::K3 sI pt lh::ma ul sI lh::G qh (.pick NE cT NI) lG true::K7 li qh lG::K3 um p3 li::dl sJ 0 aQ li qi [K3 sK p5 li,G rm (.call (C (.func 204 [] [])) [NJ,HZ,Ic]) li false,ma xl rm li,G uo (.pick W9 cT Ie) lG true,y oN lG uo]))))) (H Xa (q [N (.store 1 t2 cF)] .ret) .skip)))))))))))) (r (gP vI bV [])))))))) (q [qp p2] .ret)))))
def YO:aE:=.code 6 [.tmp p4] (q [b p2 161 p0,b p3 3 p1,uz p4] (q [O p5 (.iG 205 [] [t2,t3]),m p4 p5] .ret))
def YP:aE:=.code 19 [] (q [l p4 p1,z p5 p4,K6 p6 p5,m p3 p6] (Bl 0 (Lp (S (q [m p7 p3,oP p8 p7] (H t8 .skip (X 0))) (S (Bl 1 (q [m aQ p0,m aZ p3,l aX p1,m bj p3,x bk 1 aX bj,l bo bk,mA aY aQ aZ bo,no bw aY] (H jp .ret .skip))) (r [m p9 p3,K6 aO p9,m p3 aO]))))))
def YQ:aE:=.code 4 [.tmp p2] (q [b p1 56 p0,uz p2] (q [qq p3 207 p1,m p2 p3] .ret))
def YR:aE:=.code 32 [] (q (l aQ p2::m aZ p0::O aX (.lookup .int v0 true kM km)::oS aO aX bj bk p8 p9 []) (q [m bo p9,no aY bo,m bw aY,ez bJ p8 bw,ez bP p1 bw,G bQ (.arith .geq 3 nY kN) bw false,o bM bw bQ] (H na (r [l bI p3,l bG p4,x bR 1 bI bG,l b8 bR,m bV p0,c cC 179 [nf,rq],m ct cC,K3 b7 p5 ct,o cQ ct b7,s 1 p5 cQ]) .skip)))
def YS:aE:=.code 13 [.tmp p4] (q [f p4] (q [m p6 p0,m p7 p1,O p8 (.lookup .int (.bool false) false t6 t7),no p9 p8,m p5 p9] (q [m aO p0,m aQ p1,N (.ju .int fi kM cT)] (q [m aZ p5,m p4 aZ] .ret))))
def YT:aE:=.code 4 [.tmp p2] (q [b p1 56 p0,uz p2] (q [qq p3 208 p1,m p2 p3] .ret))
def YU:aE:=.code 35 [.cell p4 false 1,.cell p5 false 1] (q [b p2 161 p0,O p4 (.alloc 3 [v0]),BR p5] (S (q (l p8 p2::nc p9 p8::fK aO 5 p9 aQ aZ p1 aX 1 [l bj aX,c bk 211 [jn]]) (Bl 0 (.rangeFunc l9 [bo,aY] (r [O p7 (.alloc 255 [v0,(i 4 0)]),s 2 p7 aY]) (Bl 1 (q [a bw 1 p7,l bJ bw,K0 bP 4 bJ 0] (H kN (q (kn bQ p2 bM bI 0 (a bG 3 bI::l bR bG::eF b8 p7 bV (x cC 7 bR bV::a ct 2 cC::a b7 4 ct::l cQ b7::O cR (.dk 2 my i1)::eF cD cR cY [s 1 p4 cY,qp p5]))) .ret) .skip)))))) (q [N (.store 1 t4 (J 3 0)),N (.store 1 t5 cF)] .ret)))
def YV:aE:=.code 47 [.cell p2 true 8] (q [Eb p2] (S (q [m p3 p0] (Bl 0 (q (cw p5 4 p3 37 p4 []) (H t4 (q [O p6 (.build [(.aC []),(.bool false),v0,(.bool false),v0,v0,v0,v0] [(0,1,(C (.aC [114,111,111,116]))),(1,1,cT),(2,1,i0),(3,1,cF),(4,1,i0),(5,1,i0),(6,1,i7),(7,1,i0)]),s 8 p2 p6] .ret) (q (cw p8 4 p3 38 p7 []) (H t7 (q [O p9 (.build [(.aC []),(.bool false),v0,(.bool false),v0,v0,v0,v0] [(0,1,(C (.aC [115,101,116,114,111,111,116]))),(1,1,cF),(2,1,i1),(3,1,cF),(4,1,i0),(5,1,i0),(6,1,i7),(7,1,i0)]),s 8 p2 p9] .ret) (q (cw aQ 4 p3 39 aO []) (H fi (q [O aZ (.build [(.aC []),(.bool false),v0,(.bool false),v0,v0,v0,v0] [(0,1,(C (.aC [116,105,99,107]))),(1,1,cF),(2,1,i0),(3,1,cF),(4,1,i0),(5,1,i0),(6,1,i0),(7,1,i0)]),s 8 p2 aZ] .ret) (q (cw bj 4 p3 60 aX []) (H lI (q [Ig bk 0 1 109 111 118 101 2 3 4 5 6 7,s 8 p2 bk] .ret) (q (cw aY 4 p3 61 bo []) (H jZ (q [O bw (.build [(.aC []),(.bool false),v0,(.bool false),v0,v0,v0,v0] [(0,1,(C (.aC [103,111]))),(1,1,cF),(2,1,i0),(3,1,cF),(4,1,i0),(5,1,i0),(6,1,i0),(7,1,i1)]),s 8 p2 bw] .ret) (q (cw bP 4 p3 62 bJ []) (H nY (q [O bQ (.build [(.aC []),(.bool false),v0,(.bool false),v0,v0,v0,v0] [(0,1,(C (.aC [105,102]))),(1,1,cF),(2,1,i1),(3,1,cF),(4,1,i0),(5,1,i0),(6,1,i0),(7,1,i2)]),s 8 p2 bQ] .ret) (q (cw bI 4 p3 63 bM []) (H na (q [O bG (.build [(.aC []),(.bool false),v0,(.bool false),v0,v0,v0,v0] [(0,1,(C (.aC [105,115]))),(1,1,cF),(2,1,i1),(3,1,cF),(4,1,i0),(5,1,i0),(6,1,i6),(7,1,i2)]),s 8 p2 bG] .ret) (q (cw b8 4 p3 64 bR []) (H ur (q [O bV (.build [(.aC []),(.bool false),v0,(.bool false),v0,v0,v0,v0] [(0,1,(C (.aC [112,97,114,116]))),(1,1,cT),(2,1,i1),(3,1,cT),(4,1,i0),(5,1,i3),(6,1,i0),(7,1,i0)]),s 8 p2 bV] .ret) (q (cw ct 4 p3 65 cC []) (H t28 (q [O b7 (.build [(.aC []),(.bool false),v0,(.bool false),v0,v0,v0,v0] [(0,1,(C (.aC [104,111,108,100]))),(1,1,cT),(2,1,i1),(3,1,cF),(4,1,i0),(5,1,i0),(6,1,i0),(7,1,i2)]),s 8 p2 b7] .ret) (q (cw cR 4 p3 66 cQ []) (H my (q [O cD (.build [(.aC []),(.bool false),v0,(.bool false),v0,v0,v0,v0] [(0,1,(C (.aC [115,101,108,101,99,116]))),(1,1,cF),(2,1,i0),(3,1,cF),(4,1,i0),(5,1,i0),(6,1,i0),(7,1,i0)]),s 8 p2 cD] .ret) (q (cw cB 4 p3 67 cY []) (H pu (q [O bZ (.build [(.aC []),(.bool false),v0,(.bool false),v0,v0,v0,v0] [(0,1,(C (.aC [116,114,121]))),(1,1,cT),(2,1,i0),(3,1,cF),(4,1,i0),(5,1,i0),(6,1,i0),(7,1,i1)]),s 8 p2 bZ] .ret) (q (cw db 4 p3 68 dc []) (H n6 (q [O di (.build [(.aC []),(.bool false),v0,(.bool false),v0,v0,v0,v0] [(0,1,(C (.aC [101,110,100]))),(1,1,cF),(2,1,i0),(3,1,cF),(4,1,i0),(5,1,i0),(6,1,i0),(7,1,i0)]),s 8 p2 di] .ret) (q (cw dg 4 p3 69 du []) (H sO (q [O cS (.build [(.aC []),(.bool false),v0,(.bool false),v0,v0,v0,v0] [(0,1,(C (.aC [114,101,116]))),(1,1,cF),(2,1,i1),(3,1,cF),(4,1,i0),(5,1,i0),(6,1,i0),(7,1,i0)]),s 8 p2 cS] .ret) (q (cw dw 4 p3 70 de []) (H vN (q [O dC (.build [(.aC []),(.bool false),v0,(.bool false),v0,v0,v0,v0] [(0,1,(C (.aC [115,116,117,99,107]))),(1,1,cF),(2,1,i0),(3,1,cF),(4,1,i0),(5,1,i0),(6,1,i0),(7,1,i0)]),s 8 p2 dC] .ret) .skip)))))))))))))))))))))))))))))) (q [O dh (.build [(.aC []),(.bool false),v0,(.bool false),v0,v0,v0,v0] []),s 8 p2 dh] .ret)))
def YW:aE:=.code 13 [.tmp p2] (q [f p2] (q [O p3 (.bg (C (.func 214 [] [])))] (q [m p4 p0,O p5 (.ku t4),c p6 192 [i1,(I 3 40),t5],m p7 p6,K7 p8 p0 p7,K7 p9 p3 p7,BS aO 215 p8 p9 p7,rC aQ aO p7,y aZ p7 aQ,m p2 aZ] .ret)))
def YX:aE:=.code 15 [.tmp p6] (q [f p6] (q [m p7 p2,m p8 p0,O p9 (.arith .geq 3 t7 t8),m aO p9,K7 aQ p2 aO,K7 aZ p1 aO,G aX (.arith .leq 3 kM km) aO true,y bj aO aX,m p6 bj] .ret))
def YY:aE:=.code 9 [.tmp p4] (q [b p3 109 p1,f p4] (q [m p5 p0,qq p6 216 p3,c p7 68 [t5,t6],no p8 p7,m p4 p8] .ret))
def YZ:aE:=.code 34 [.tmp p4] (q [f p4] (S (q (m p5 p0::nc p6 p5::a p7 0 p6::a p8 1 p7::l p9 p8::m aO p0::nc aQ aO::a aZ 0 aQ::a aX 2 aZ::l bj aX::K6 bk bj::m bo p1::c aY 192 [t9,l9,jZ]::no bw aY::m bJ bw::ez bP p0 bJ::G bQ (.nilCheck kN) bJ false::dl bM 4 bQ bJ bI [ez bG p1 bJ,sU bR 1 bI bG bJ,K3 b8 bR bJ,o bV bJ b8]) (H rq (q [f p4] .ret) .skip)) (q (m cC p0::nc ct cC::fK b7 4 ct cQ cR p1 cD 1 [qp cD]) (q [kl p4] .ret))))
def Y0:aE:=.code 9 [.tmp p4] (q [b p3 248 p1,f p4] (q [m p5 p0,qq p6 218 p3,c p7 217 [t5,t6],no p8 p7,m p4 p8] .ret))
def Y1:aE:=.code 76 [.tmp p4] (q [b p3 58 p1,f p4] (q [ld p8 6 p3,c p9 219 [t8],m p7 p9,ex aO p7 0,ex aQ p7 1,Ec p5,s 6 p5 aO,m p6 aQ] (S (q (m aZ p6::no aX aZ::m bj aX::dl bk 1 p5 bj bo (dl aY 2 p5 bj bw (dl bJ 2 p3 bj bP (mz bQ bP bj::G bM (.call (C (.func 192 [] [])) [jZ,jp,ql]) bj false::ma bI bM bj::o bG bj bI::m bR bG::dl b8 3 p5 bR bV (dl cC 5 p3 bR ct (G b7 (.call rq [nZ]) bR false::ma cQ b7 bR::o cR bR cQ::m cD cR::dl cY 4 p5 cD cB (dl bZ 5 p5 cD dc (dl db 3 p3 cD di (G du (.call (C (.func 192 [] [])) [ru,n6,rA]) cD false::ma dg du cD::o cS cD dg::m de cS::dl dw 4 p3 de dC (G dh (.arith .neq 3 ut i0) de false::ez cK dh de::eo dD 0 p3 cK dN (G dT (.arith .neq 4 vO (I 4 13)) cK true::K7 ey dT cK::dl dp 4 p3 ey cU (G dX (.arith .neq 3 t53 i1) ey false::G eC (.pick t51 cT sP) cK true::oQ dU cK eC de::o eP de dU::m dY eP::dl ef 2 p3 dY eQ [ez eg p0 dY,G eD (.iG 220 [BE] []) dY false,vQ ff 193 eQ eD dY,ma fw ff dY,o eR dY fw])))))))))))) (H BF (q [f p4] .ret) .skip)) (S (q (eF eI p5 gu [no eh gu]) (H zN (q [a fH 1 p3,l fI fH,O fW (.arith .eql 3 sR (J 3 0)),m p4 fW] .ret) .skip)) (q [m fP p0,a eZ 1 p3,l fX eZ,c fg 194 [xy,xz],m p4 fg] .ret)))))
def Y2:aE:=.code 132 [.tmp p4] (q [b p3 54 p1,f p4] (q (dq p6 1 p3 p7 p8 [m p5 p8]) (S (q (a p9 1 p3::l aO p9::m aQ p0::O aZ (.iG 220 [kM] [])::c aX 193 [fi,km]::no bj aX::m bk bj::dl bo 0 p3 bk aY (uy bw 4 aY 63 bk::dl bJ 2 p3 bk bP (G bQ (.il .neq kN (C (.aC []))) bk false::G bM (.eq true .bool jp ql) bk false::o bI bk bM::m bG bI::dl bR 0 p3 bG b8 (G bV (.arith .neq 4 nf (I 4 66)) bG false::ez cC bV bG::eo ct 3 p3 cC b7 [kO cQ b7 cC,G cR (.arith .gtr 3 my i0) cC true,oQ cD cC cR bG,o cY bG cD])))) (H pu (q [f p4] .ret) .skip)) (S (q (eF cB p3 bZ []) (Bl 0 (q (cw db 4 bZ 61 dc []) (H n6 (q (m di p5::e du di 0::m dg du::K7 cS p0 dg::eo de 4 p3 dg dw [G dC (.buildSlice 3 1 [v0] [(0,1,i0)]) dg true,xA dh 221 cS dw dC dg,y cK dg dh,m p4 cK]) .ret) (q (cw dN 4 bZ 62 dD []) (H uv (q (m dT p5::e ey dT 1::m dp ey::K7 cU p0 dp::eo dX 4 p3 dp eC [G dU (.buildSlice 3 2 [v0] [(0,1,i0),(1,1,i0)]) dp true,xA eP 221 cU eC dU dp,y dY dp eP,m p4 dY]) .ret) (q (cw eQ 4 bZ 63 ef []) (H xu (q (m eg p5::e eD eg 1::m ff eD::eo fw 2 p3 ff eR (BQ eI 191 eR ff::y gu ff eI::m eh gu::K7 fH p0 eh::eo fI 4 p3 eh fW [G fP (.buildSlice 3 2 [v0] [(0,1,i0),(1,1,i0)]) eh true,xA eZ 221 fH fW fP eh,y fX eh eZ,m p4 fX])) .ret) (q (cw gN 4 bZ 65 fg []) (H zO (q (m fY p5::e gX fY 1::m fJ gX::K7 iz p0 fJ::eo iA 4 p3 fJ ic [G io (.buildSlice 3 2 [v0] [(0,1,i1),(1,1,i0)]) fJ true,xA iE 221 iz ic io fJ,y jE fJ iE,m p4 jE]) .ret) (q (cw jY 4 bZ 66 iX []) (H HP (q [m iY p0,ld k7 5 p3,c mq 222 [D6,Ny],m p4 mq] .ret) (q (cw lb 4 bZ 67 kL []) (H D8 (q (m jF p5::e ki jF 0::m kj ki::K7 mY p0 kj::eo mZ 4 p3 kj lf [BS m8 223 mY lf kj,y po kj m8,m p4 po]) .ret) (q (cw nW 4 bZ 68 pX []) (H D9 (q (m oI p5::O lg (.arith .gtr 3 HS i0)::m jh lg::eo mr 4 p3 jh oJ [kO mu oJ jh,vS pp mu jh,y lG jh pp,m p4 lG]) .ret) (S (q (cw oM 4 bZ 69 oK []) (H HW .skip (r (cw lH 4 bZ 21 oK [])))) (H HW (q (m l8 p5::e lh l8 1::m nX lh::eo pY 4 p3 nX m9 [kO pq m9 nX,vS pZ pq nX,y qf nX pZ,m p4 qf]) .ret) (q (cw sI 4 bZ 70 pt []) (H NH (q (m ul p5::e qh ul 0::m li qh::eo um 4 p3 li sJ [kO qi sJ li,vS sK qi li,y rm li sK,m p4 rm]) .ret) .skip)))))))))))))))))))) (q [f p4] .ret)))))
def Y3:aE:=.code 9 [.tmp p4] (q [b p3 251 p1,f p4] (q [m p5 p0,qq p6 225 p3,c p7 224 [t5,t6],no p8 p7,m p4 p8] .ret))
def Y4:aE:=.code 4 [.tmp p2] (q [f p2] (q [m p3 p0,m p2 p3] .ret))
def Y5:aE:=.code 26 [.tmp p4] (q [f p4] (S (q [m p6 p0,z p7 p6,m p8 p1,z p9 p8,uA aO p7 p9] (H fi (q [f p4] .ret) .skip)) (S (q [m aQ p0,z aZ aQ,bT aX] (Bl 0 (Lp (q [u bj aX aZ] (S (H jn .skip (X 0)) (S (Bl 1 (q [m bk aX,m p5 bk] (q [m bo p0,m aY p5,x bw 2 bo aY,ld bJ 2 bw,m bP p1,m bQ p5,x bM 2 bP bQ,ld bI 2 bM,O bG (.eq true (.eW [(0,1,false,.int),(1,1,false,.int)]) nY mw)] (H rp (q [f p4] .ret) .skip)))) (r (gP bR aX [])))))))) (q [kl p4] .ret))))
def Y6:aE:=.code 94 [.tmp p2] (q [nl p2] (q [m bk p0,c bo 114 [l9],m p3 bo] (q (m aY p0::nc bw aY::a bJ 0 bw::dq bP 3 bJ bQ bM [O bI (.jr 3 8 1 [v0] na na),O bG (.buildSlice 3 1 [v0] [(0,1,(J 3 0))]),m bR p0,nc b8 bR,a bV 0 b8,a cC 3 bV,R ct (.aW t28) [bG,bI] [],z b7 ct,oO p4 42,oO p5 42,R cQ (.call (C (.func 91 [] [])) [rp,vM]) [p5,p4,bI] [⟨bQ,.aW kN,none⟩],s 1 p4 bI,s 1 p5 cQ]) (S (q [m cR p3,z cD cR,bT cY] (Bl 0 (Lp (q [u cB cY cD] (S (H ru .skip (X 0)) (S (Bl 1 (q [m bZ cY,x dc 1 cR cY,l db dc,m p6 bZ,m p7 db] (r [l di p4,m du p7,m dg p6,x cS 1 di du,s 1 cS dg]))) (r (gP de cY [])))))))) (q [O dw (.iG 226 [] [t4,t5]),m p8 dw] (q [l dC p5,O dh (.dk 1 ut i0),N (.store 1 t46 i0)] (S (q [kl p9] (Bl 2 (Lp (S (q [m cK p9] (H uu .skip (X 2))) (Bl 3 (q [f p9] (q [m dD p3,z dN dD,bT dT] (Bl 4 (Lp (q [u ey dT dN] (S (H t51 .skip (X 4)) (S (Bl 5 (q [x dp 1 dD dT,l cU dp,m aQ cU] (q [m dX p0,m eC aQ,c dU 142 [sP,BC],z eP dU,bT dY] (Bl 6 (Lp (q [u ef dY eP] (S (H xu .skip (X 6)) (S (Bl 7 (q [x eQ 1 dU dY,l eg eQ,m aX eg] (q [m eD aQ,m bj eD] (S (q [l ff p5,m fw aX,x eR 1 ff fw,l eI eR,O gu (.arith .neq 3 BG (J 3 0))] (H zM (r [m eh p8,l fH p5,m fI aX,x fW 1 fH fI,l fP fW,m eZ aQ,mA fX eh fP eZ,m bj fX]) .skip)) (q (m fg aX::xC gN fg::m fY gN::BK gX p5 fY::rE fJ aX fY iz gX iA [K7 ic bj fY,G io (.arith .neq 3 BJ HO) fY true,y iE fY io]) (H WU (r [l jE p5,m iX aX,m jY bj,x iY 1 jE iX,s 1 iY jY,kl p9]) .skip)))))) (r (gP k7 dY [])))))))))) (r (gP mq dT [])))))))))))))) (q [l kL p5,O lb (.dk 1 D8 i0),N (.store 1 HQ (J 3 0))] (q [l jF p5,m p2 jF] .ret)))))))))
def Y7:aE:=.code 39 [.tmp p2] (q [nl p2] (q [O p8 (.build [v0,v0] [(0,1,(J 3 0)),(1,1,(J 3 0))]),O p9 (.buildSlice 260 1 [v0,v0] [(0,2,t8)]),m aO p0,nc aQ aO,a aZ 0 aQ,a aX 2 aZ,l bj aX,c bk 227 [t9,jn],oO p3 257,s 1 p3 bk] (S (q (m bo p0::nc aY bo::a bw 0 aY::dq bJ 3 bw bP bQ [bT bM]) (Bl 0 (Lp (q [u bI bM bQ] (S (H mw .skip (X 0)) (S (Bl 1 (q [m bG bM,x bR 7 bP bM,ld b8 7 bR,O p4 (.alloc 3 [v0]),K1 p5,s 1 p4 bG,s 7 p5 b8] (q [ld bV 7 p5,c cC 177 [rq]] (Bl 2 (.rangeFunc t28 [ct,b7] (q [m p6 ct] (r [m p7 b7])) (Bl 3 (r [l cQ p3,m cR p6,l cD p4,m cY p7,O cB (.build [v0,v0] [(0,1,rr),(1,1,pu)]),x bZ 2 cQ cR,s 2 bZ cB]))))))) (r (gP dc bM [])))))))) (q [l db p3,m p2 db] .ret))))
def Y8:aE:=.code 36 [.tmp p4,.tmp p5] (q [bT p4,f p5] (q (m p7 p0::nc p8 p7::fK p9 5 p8 aO aQ p1 aZ 1 [l aX aZ,m p6 aX]) (S (q [m bj p6,z bk bj,e bo bk 0] (H jZ (q [O p4 (.bg (J 3 0)),f p5] .ret) .skip)) (q (m aY p0::nc bw aY::a bJ 0 bw::a bP 3 bJ::l bQ bP::m bM p6::m bI p6::z bG bI::K6 bR bG::x b8 2 bM bR::eF bV b8 cC (x ct 7 bQ cC::a b7 2 ct::a cQ 4 b7::l cR cQ::O cD (.dk 2 sM i2)::eF cY cD cB [m p4 cB,kl p5])) .ret))))
def Y9:aE:=.code 16 [.tmp p6] (q [f p6] (q [m p7 p1,m p8 p2,uA p9 p7 p8,m aO p9,K7 aQ p0 aO,K7 aZ p1 aO,K7 aX p2 aO,xA bj 228 aQ aZ aX aO,y bk aO bj,m p6 bk] .ret))
def Y':aE:=.code 87 [] (q (kn aZ p1 aX bj 0 (a bk 3 bj::l bo bk::l aY p2::x bw 7 bo aY::a bJ 2 bw::ld bP 5 bJ::kn bQ p1 bM bI 5 [l bG bI,l bR p2,x b8 1 bG bR,l bV b8,Ih p4,M (.store 5 t4 kN) [] [⟨bV,.aW nf,none⟩,⟨bR,.aW t2,none⟩,⟨bG,.aW mw,none⟩,⟨bQ,.aW t1,none⟩],m p5 bV])) (q (eF cC p4 ct []) (Bl 0 (q (cw dC 4 ct 67 dw []) (H py (q [O dh (.buildSlice 5 2 [(i 4 0)] [(0,1,(I 4 0)),(1,1,(I 4 1))]),z cK dh,bT dD] (Bl 3 (Lp (q [u dN dD cK] (S (H vO .skip (X 3)) (S (Bl 4 (q [m dT dD,x ey 1 dh dD,l dp ey,m p6 dT,m p7 dp] (q (m cU p0::fK dX 4 p4 eC dU p6 eP 2 (eF dY eP ef [m eQ p5,l eD p2,m ff p7,O fw (.build [v0,(i 4 0)] [(0,1,xw),(1,1,zK)]),O eR (.buildSlice 255 1 [v0,(i 4 0)] [(0,2,zL)]),R eg (.call (C (.func 206 [] [])) [sQ]) [eR] [⟨eD,.aW t2,none⟩,⟨ef,.aW rB,none⟩,⟨eC,.aW sP,none⟩],R eI (.append 255 16 2 [v0,(i 4 0)] false BE BF) [] [⟨ef,.aW rB,none⟩,⟨eC,.aW sP,none⟩],mA gu cU ef eI,no eh gu])) (H zN .ret .skip)))) (r (gP fH dD [])))))))) (q (cw fW 4 ct 68 fI []) (H sR (q (l eZ p1::l fX p2::c fg 203 [BH,xz]::oS fP fg gN fY p8 p9 []) (q [m gX p9] (H zP (r [m fJ p0,m iz p8,m iA p5,m ic p5,z io ic,K6 iE io,zS jE 255 2 iA iE,mA iX fJ iz jE]) .skip))) (q (dq b7 4 p4 cQ cR [bT cD]) (Bl 1 (Lp (q [u cY cD cR] (S (H pu .skip (X 1)) (S (Bl 2 (q [x cB 2 cQ cD,ld bZ 2 cB,vR aQ,s 2 aQ bZ] (q (m dc p0::eF db aQ di [m du p5,mA dg dc di du,no cS dg]) (H BA .ret .skip)))) (r (gP de cD [])))))))))))))))
def Za:aE:=.code 9 [.tmp p2] (q [nl p2] (q [m p3 p0,m p4 p0,z p5 p4,m p6 p0,z p7 p6,O p8 (.gR 255 2 t3 none (some t5) (some t7)),m p2 p8] .ret))
def Zb:aE:=.code 39 [] (S (q (dq p7 0 p1 p8 p9 [bT aO]) (Bl 0 (Lp (q [u aQ aO p9] (S (H kM .skip (X 0)) (S (Bl 1 (q [x aZ 1 p8 aO,l aX aZ,m p4 aX] (q [m bj p0,m bk p4,O bo (.call jn [l9,(J 3 0)]),no aY bo] (H jo .ret .skip)))) (r (gP bw aO [])))))))) (q (dq bJ 1 p1 bP bQ [bT bM]) (Bl 2 (Lp (q [u bI bM bQ] (S (H mw .skip (X 2)) (S (Bl 3 (q [m bG bM,x bR 6 bP bM,ld b8 6 bR,BL p6,m p5 bG,s 6 p6 b8] (q (a bV 1 p6::l cC bV::O ct (.arith .neq 3 t28 (J 3 0))::m b7 ct::K7 cQ p0 b7::eo cR 1 p6 b7 cD [K7 cY p5 b7,G cB (.call my [rr,pu]) b7 true,rC bZ cB b7,y dc b7 bZ]) (H n6 .ret .skip)))) (r (gP db bM [])))))))))
def Zc:aE:=.code 50 [] (q [b p2 217 p0] (q [qq p9 209 p2,m p3 p9] (S (q (dq aO 1 p1 aQ aZ [bT aX]) (Bl 0 (Lp (q [u bj aX aZ] (S (H jn .skip (X 0)) (S (Bl 1 (q [m bk aX,x bo 6 aQ aX,ld aY 6 bo,BL p5,m p4 bk,s 6 p5 aY] (q [m bw p3,m bJ p4,a bP 2 p5,l bQ bP,mA bM bw bJ bQ,no bI bM] (H mw .ret .skip)))) (r (gP bG aX [])))))))) (q (dq bR 1 p1 b8 bV [m p6 bV]) (S (q [m cC p3,m ct p6,a b7 2 p1,a cQ 1 b7,l cR cQ,mA cD cC ct cR,no cY cD] (H pu .ret .skip)) (q (a cB 2 p1::dq bZ 4 cB dc db [bT di]) (Bl 2 (Lp (q [u du di db] (S (H sO .skip (X 2)) (S (Bl 3 (q [x dg 2 dc di,ld cS 2 dg,vR p8,s 2 p8 cS] (q [m de p3,m dw p6,a dC 1 p8,l dh dC,mA cK de dw dh,no dD cK] (H uv .ret .skip)))) (r (gP dN di [])))))))))))))
def Zd:aE:=.code 10 [.tmp p5] (q [b p3 3 p0,f p5] (q [m p6 p1,O p7 (.iG 210 [] [t2,t3]),c p8 68 [t6,t7],no p9 p8,m p5 p9] .ret))
def Ze:aE:=.code 10 [.tmp p4] (q [f p4] (q [l p5 p1,m p6 p0,l p7 p2,mA p8 p5 p6 p7,no p9 p8,m p4 p9] .ret))
def Zf:aE:=.code 4 [.tmp p2] (q [b p1 252 p0,uz p2] (q [qq p3 229 p1,m p2 p3] .ret))
def Zg:aE:=.code 13 [.tmp p2] (q [f p2] (q [m p3 p0,O p4 (.arith .lss 2 t3 (I 2 33)),m p5 p4,ez p6 p0 p5,ng p7 2 p6 126 p5,o p8 p5 p7,m p9 p8,ez aO p0 p9,uy aQ 2 aO 34 p9,o aZ p9 aQ,m p2 aZ] .ret))
def Zh:aE:=.code 9 [.tmp p4] (q [f p4] (q [m p5 p0,m p6 p1,c p7 230 [t5,t6],oP p8 p7,m p4 p8] .ret))
def Zi:aE:=.code 8 [.tmp p3] (q [f p3] (q [l p4 p1,m p5 p0,nj p6 p4 p5,no p7 p6,m p3 p7] .ret))
def Zj:aE:=.code 9 [.tmp p4] (q [f p4] (q [m p5 p0,m p6 p1,c p7 231 [t5,t6],oP p8 p7,m p4 p8] .ret))
def Zk:aE:=.code 8 [.tmp p3] (q [b p2 58 p0,f p3] (q [l p4 p1,ld p5 6 p2,nj p6 p4 p5,no p7 p6,m p3 p7] .ret))
def Zl:aE:=.code 44 [.cell p2 true 6,.tmp p3] (q [b p1 58 p0,Ec p2,f p3] (S (Bl 0 (q (eF p7 p1 p8 (cw p9 4 p8 14 p6 [])) (H t6 (q (a aQ 5 p1::l aZ aQ::c aX 232 [km]::oS aO aX bj bk p4 p5 []) (q [m bo p4,m aY p4,c bw 233 [cT,jZ,jo],m bJ p5,s 6 p2 bw,m p3 bJ] .ret)) (q (eF bQ p1 bM (cw bI 4 bM 13 bG (eo bR 4 p1 bG b8 [G bV (.arith .eql 3 nf i1) bG true,y cC bG bV,m bP cC]))) (H kN (q [c ct 233 [cT,i0,i6],s 6 p2 ct,kl p3] .ret) (q (eF cQ p1 cR (cw cD 4 cR 13 b7 [])) (H vM (q [O cY (.build [(.bool false),v0,v0,.nilFunc,v0,v0] [(0,1,cT),(1,1,i1),(2,1,i7),(3,1,(C (.func 234 [] []))),(4,1,i0),(5,1,i0)]),s 6 p2 cY,kl p3] .ret) .skip))))))) (q (eF dc p1 db [R bZ (.call (C (.func 235 [] [])) []) [] [⟨db,.aW n6,none⟩],O di (.lookup .int (.agg [(.bool false),v0,v0,.nilFunc,v0,v0]) true xp sN),m cB di,ex du cB 0,ex dg cB 1,s 6 p2 du,m p3 dg]) (q [ld cS 6 p2,m de p3,s 6 p2 cS,m p3 de] .ret))))
def Zm:aE:=.code 13 [.tmp p4] (q [f p4] (q [m p5 p0,nc p6 p5,a p7 0 p6,a p8 2 p7,l p9 p8,K6 aO p9,m aQ p1,c aZ 192 [i0,fi,kM],m p4 aZ] .ret))
def Zn:aE:=.code 30 [.tmp p6] (q [f p6] (S (q [m p9 p1,z aO p9,m aQ p2,z aZ aQ,uA aX aO aZ] (H lI (q [f p6] .ret) .skip)) (S (q [m bj p1,z bk bj,bT bo] (Bl 0 (Lp (q [u aY bo bk] (S (H jo .skip (X 0)) (S (Bl 1 (q [m bw bo,x bJ 2 bj bo,ld bP 2 bJ,vR p8,m p7 bw,s 2 p8 bP] (q (m bQ p0::ld bM 2 p8::j5 bI p2 bG p7 bR b8 [c bV 236 [ql,na,nf],no cC bV]) (H t28 (q [f p6] .ret) .skip)))) (r (gP ct bo [])))))))) (q [kl p6] .ret))))
def Zo:aE:=.code 68 [.tmp p4] (q [b p3 54 p1,f p4] (q [nl p5] (q [bT p6] (S (q (dq aO 3 p3 aQ aZ [bT aX]) (Bl 0 (Lp (q [u bj aX aZ] (S (H jn .skip (X 0)) (S (Bl 1 (q [m bk aX,x bo 1 aQ aX,l aY bo,m p7 bk,m p8 aY] (S (q (m bw p8::O bJ (.arith .lss 4 jp (I 4 1))::m bP bJ::ez bQ p8 bP::ng bM 4 bQ 3 bP::o bI bP bM::m bG bI::ez bR p8 bG::uy b8 4 bR 3 bG::ez bV b8 bG::K7 cC p7 bV::eo ct 3 p3 bV b7 [kO cQ b7 bV,G cR (.arith .sub 3 my i1) bV true,G cD (.arith .lss 3 t28 sM) bV true,oQ cY bV cD bG,o cB bG cY]) (H ru (q [f p4] .ret) .skip)) (q [bT p9] (S (q [m bZ p8] (Bl 2 (q (cw db 4 bZ 1 dc []) (H n6 (r [m di p6,pl du di 2,m p6 du]) (q (cw cS 4 bZ 2 dg []) (H px (q (gO de p6 dw []) (r [k p9 1])) .skip)))))) (r [m dC p5,m dh p9,pz cK dh,K4 dD dC cK,m p5 dD])))))) (r (gP dN aX [])))))))) (q (dq dT 3 p3 ey dp (c cU 192 [i1,i4,zJ]::m dX cU::eo eC 1 p3 dX dU (kO eP dU dX::K7 dY p6 dX::G ef (.arith .eql 3 uw rB) dX true::y eQ dX ef::m eg eQ::K7 eD p0 eg::eo ff 4 p3 eg fw [K7 eR p5 eg,xA eI 221 eD fw eR eg,y gu eg eI,m p4 gu]))) .ret)))))
def Zp:aE:=.code 61 [.tmp p4] (q [f p4] (S (q [m p6 p1,z p7 p6,O p8 (.arith .neq 3 t7 i3)] (H t8 (q [f p4] .ret) .skip)) (q [m p9 p1,O aO (.dk 2 t9 i2),ld aQ 2 aO,vR p5,s 2 p5 aQ] (q (m aZ p0::m aX p1::O bj (.gR 64 2 lI none (some i2) none)::O bk (.buildSlice 3 2 [v0] [(0,1,i0),(1,1,i1)])::c bo 221 [km,jn,l9]::m aY bo::K7 bw p1 aY::G bJ (.dk 2 jp i0) aY true::eo bP 1 bJ aY bQ (kO bM bQ aY::K7 bI p1 aY::G bG (.dk 2 mw i1) aY true::eo bR 1 bG aY b8 (kO bV b8 aY::G cC (.arith .add 3 na rq) aY true::eo ct 1 p5 aY b7 (kO cQ b7 aY::G cR (.arith .add 3 t28 my) aY true::vS cD cR aY::y cY aY cD::m cB cY::K7 bZ p0 cB::G dc (.nilCheck xp) cB true::Ea db 0 dc cB::eo di 3 db cB du (kO dg du cB::G cS (.arith .sub 3 px i1) cB true::eo de 0 p5 cB dw (G dC (.call (C (.func 192 [] [])) [i1,BA,py]) cB true::y dh cB dC::m cK dh::K7 dD p0 cK::G dN (.nilCheck uv) cK true::Ea dT 0 dN cK::eo ey 3 dT cK dp (eo cU 0 p5 cK dX (BN eC 7 dp dX cK::eo dU 0 eC cK eP [kO dY eP cK,G ef (.arith .gtr 3 rB i0) cK true,y eQ cK ef,m p4 eQ])))))))) .ret))))
def Zq:aE:=.code 9 [.tmp p4] (q [f p4] (q [m p5 p0,m p6 p1,c p7 237 [t5,t6],oP p8 p7,m p4 p8] .ret))
def Zr:aE:=.code 8 [.tmp p3] (q [f p3] (q [l p4 p1,m p5 p0,nj p6 p4 p5,no p7 p6,m p3 p7] .ret))
def Zs:aE:=.code 26 [.tmp p6] (q [bT p6] (S (Bl 0 (Lp (S (q [m p7 p0,m p8 p1,uA p9 p7 p8] (H t9 .skip (X 0))) (Bl 1 (S (q [l aO p2,m aQ p0,x aZ 1 aO aQ,l aX aZ,l bj p2,m bk p1,x bo 1 bj bk,l aY bo,u bw aX aY] (H jp (r [m bJ p1,m bP p0,m p0 bJ,m p1 bP]) .skip)) (r [l bQ p3,m bM p0,x bI 1 bQ bM,l bG bI,m p0 bG])))))) (q [m bR p0,m p6 bR] .ret)))
def Zt:aE:=.code 48 [.tmp p4] (q [nl p4] (S (q [m p9 p1,O aO (.arith .lss 3 t9 i0)] (H fi (r [O aQ (.lw 9 (C (.aC [99,97,110,110,111,116,32,98,101,32,110,101,103,97,116,105,118,101]))),N (.oW)]) .skip)) (q (m aX p0::z bj aX::oR bk 7 bj::m bo p1::oR aY 7 bo::c bw 131 [l9,jo]::oS aZ bw bJ bP p5 p6 []) (S (q [m bQ p5,O bM (.arith .gtr 7 ql (I 7 0)),m bI bM,ez bG p6 bI,ng bR 7 bG 9223372036854775807 bI,o b8 bI bR] (H nf (r [O bV (.lw 9 (C (.aC [116,104,101,32,114,101,115,117,108,116,32,111,102,32,40,108,101,110,40,120,41,32,42,32,99,111,117,110,116,41,32,111,118,101,114,102,108,111,119,115]))),N (.oW)]) .skip)) (q [m cC p6,oR ct 3 cC,O b7 (.jr 260 16 2 [v0,v0] nZ nZ),m p7 b7] (q [m cQ p7,m cR p0,O cD (.copy 2 my sM),m p8 cD] (S (Bl 0 (Lp (S (q [m cY p8,m cB p7,z bZ cB,u dc cY bZ] (H n6 .skip (X 0))) (Bl 1 (r [m db p8,m di p7,m du p8,O dg (.gR 260 2 rA (some sO) none none),m cS p7,m de p8,zS dw 260 2 cS de,O dC (.copy 2 px py),rD dh 3 db dC,m p8 dh]))))) (q [m cK p7,m p4 cK] .ret))))))))
def Zu:aE:=.code 21 [.tmp p6] (q [f p6] (S (Bl 0 (Lp (S (q [m p7 p2,O p8 (.arith .neq 3 t7 (J 3 0)),m p9 p8,K7 aO p2 p9,K7 aQ p1 p9,G aZ (.arith .neq 3 fi kM) p9 true,y aX p9 aZ] (H lI .skip (X 0))) (Bl 1 (r (j5 bj p0 bk p2 bo aY [m p2 aY])))))) (q [m bw p2,m bJ p1,O bP (.arith .eql 3 jp nY),m p6 bP] .ret)))
def Zv:aE:=.code 19 [] (q [l p4 p1,z p5 p4,K6 p6 p5,m p3 p6] (Bl 0 (Lp (S (q [m p7 p3,oP p8 p7] (H t8 .skip (X 0))) (S (Bl 1 (q [m aQ p0,m aZ p3,l aX p1,m bj p3,x bk 2 aX bj,ld bo 2 bk,mA aY aQ aZ bo,no bw aY] (H jp .ret .skip))) (r [m p9 p3,K6 aO p9,m p3 aO]))))))
def Zw:aE:=.code 8 [.tmp p4] (q [bT p4] (q [m p5 p0,m p6 p1,c p7 238 [t5,t6,cT],m p4 p7] .ret))
def Zx:aE:=.code 19 [.tmp p4] (q [bT p4] (S (q [m p6 p0,z p7 p6,bT p8] (Bl 0 (Lp (q [u p9 p8 p7] (S (H t9 .skip (X 0)) (S (Bl 1 (q [m aO p8,m p5 aO] (q [m aQ p1,m aZ p0,m aX p5,x bj 6 aZ aX,ld bk 6 bj,nj bo aQ bk] (H jZ (q [m aY p5,m p4 aY] .ret) .skip)))) (r (gP bw p8 [])))))))) (q [O p4 (.bg (J 3 0))] .ret)))
def Zy:aE:=.code 32 [.tmp p2,.tmp p3] (q [bT p2,f p3] (q [O p9 (.jr 292 32 3 [(i 4 0),v0,(.aC [])] i4 i4),m p4 p9] (S (q [m aO p4,z aQ aO,bT aZ] (Bl 0 (Lp (q [u aX aZ aQ] (S (H lI .skip (X 0)) (S (Bl 1 (q [m bj aZ,m p5 bj] (q [m bo p0,m aY p4,m bw p5,zS bJ 292 3 aY bw,c bP 239 [jZ,nY],m bk bP,ex bQ bk 0,ex bM bk 1,ex bI bk 2,O p6 (.alloc 292 [(i 4 0),v0,(.aC [])]),s 3 p6 bQ,m p7 bM,m p8 bI] (q [m bG p8,O bR (.arith .neq 3 rp (I 3 10)),m b8 bR,K7 bV p8 b8,G cC (.arith .neq 3 rq i2) b8 true,y ct b8 cC] (H nZ (q [m b7 p5,m p2 b7,kl p3] .ret) .skip))))) (r (gP cQ aZ [])))))))) (q [bT p2,f p3] .ret))))
def Zz:aE:=.code 11 [.cell p6 true 6] (q [Ec p6] (q [m p7 p0,m p8 p1,m p9 p2,O aO (.build [(.bool false),v0,v0,.nilFunc,v0,v0] [(0,1,t7),(1,1,t8),(2,1,t9),(3,1,(C (.func 191 [] []))),(4,1,i0),(5,1,i0)]),s 6 p6 aO] .ret))
def ZA:aE:=.code 5 [.tmp p2] (q [f p2] (q [m p3 p0,O p4 (.il .eql t3 (C (.aC []))),m p2 p4] .ret))
def ZB:aE:=.code 26 [.tmp p0] (q [O p0 (.bg (C .cL))] (q [O p1 (.j7),O p2 (.build [(.bool false),v0,v0,.nilFunc,v0,v0] [(0,1,cT),(1,1,i0),(2,1,i0),(3,1,(C (.func 234 [] []))),(4,1,(J 3 999999999)),(5,1,(I 3 1000000000))]),K9 p1 4 1 p2,O p3 (.build [(.bool false),v0,v0,.nilFunc,v0,v0] [(0,1,cT),(1,1,i0),(2,1,i0),(3,1,(C (.func 234 [] []))),(4,1,i0),(5,1,i1)]),K9 p1 4 2 p3,O p4 (.build [(.bool false),v0,v0,.nilFunc,v0,v0] [(0,1,cT),(1,1,i0),(2,1,i0),(3,1,(C (.func 240 [] []))),(4,1,i0),(5,1,i0)]),K9 p1 4 3 p4,c p5 241 [cT,i0],N (.ju .int t1 (I 4 4) t5),c p6 233 [cT,i0,i0],K9 p1 4 11 p6,c p7 233 [cT,i0,(I 3 1073741824)],K9 p1 4 40 p7,c p8 233 [cT,i0,i6],K9 p1 4 15 p8,c p9 233 [cT,i0,i6],K9 p1 4 18 p9,c aO 233 [cT,i0,i0],K9 p1 4 37 aO,c aQ 233 [cF,i1,i1],K9 p1 4 38 aQ,O aZ (.build [(.bool false),v0,v0,.nilFunc,v0,v0] [(0,1,cT),(1,1,i1),(2,1,i1),(3,1,(C (.func 191 [] []))),(4,1,i0),(5,1,i5)]),K9 p1 4 16 aZ,O aX (.build [(.bool false),v0,v0,.nilFunc,v0,v0] [(0,1,cF),(1,1,i2),(2,1,i2),(3,1,(C (.func 191 [] []))),(4,1,i0),(5,1,i5)]),K9 p1 4 17 aX,c bj 241 [cF,i1],K9 p1 4 23 bj,O bk (.build [(.bool false),v0,v0,.nilFunc,v0,v0] [(0,1,cT),(1,1,i0),(2,1,i0),(3,1,(C (.func 234 [] []))),(4,1,i1),(5,1,i8)]),K9 p1 4 24 bk,c bo 241 [cF,i2],K9 p1 4 25 bo,c aY 241 [cT,i1],K9 p1 4 26 aY,c bw 241 [cF,i0],K9 p1 4 31 bw,c bJ 241 [cF,i1],K9 p1 4 32 bJ,c bP 241 [cT,i0],K9 p1 4 33 bP,c bQ 241 [cF,i0],K9 p1 4 34 bQ,c bM 241 [cT,i1],K9 p1 4 35 bM,c bI 241 [cF,i0],K9 p1 4 39 bI,O bG (.build [(.bool false),v0,v0,.nilFunc,v0,v0] [(0,1,cT),(1,1,i1),(2,1,i1),(3,1,(C (.func 234 [] []))),(4,1,i0),(5,1,i3)]),K9 p1 4 64 bG,m bR p1,m p0 bR] .ret))
def ZC:aE:=.code 43 [.tmp p6] (q [b p4 64 p1,f p6] (q (m p7 p0::nc p8 p7::a p9 0 p8::dq aO 3 p9 aQ aZ (K6 aX aZ::eF bj p4 bk (c bo 192 [i1,lI,l9]::m aY bo::K7 bw p0 aY::G bJ (.nilCheck jp) aY true::Ea bP 0 bJ aY::eo bQ 3 bP aY bM (eo bI 0 p4 aY bG (BN bR 7 bM bG aY::eo b8 0 bR aY bV (kO cC bV aY::eo ct 1 p4 aY b7 (kO cQ b7 aY::K7 cR p2 aY::G cD (.arith .add 3 my sM) aY true::G cY (.arith .eql 3 t28 rr) aY true::y cB aY cY::m bZ cB::eo dc 1 p4 bZ db [K7 di p0 bZ,G du (.iG 220 [rA] []) bZ true,BS dg 193 db du bZ,y cS bZ dg,m p6 cS]))))))) .ret))
def ZD:aE:=.code 19 [.tmp p4] (q [bT p4] (S (q [m p6 p0,z p7 p6,bT p8] (Bl 0 (Lp (q [u p9 p8 p7] (S (H t9 .skip (X 0)) (S (Bl 1 (q [m aO p8,m p5 aO] (q (m aQ p1::j5 aZ p0 aX p5 bj bk [nj bo aQ bk]) (H jZ (q [m aY p5,m p4 aY] .ret) .skip)))) (r (gP bw p8 [])))))))) (q [O p4 (.bg (J 3 0))] .ret)))
def ZE:aE:=.code 21 [.tmp p6] (q [bT p6] (S (q [m p9 p0,O aO (.qI t9)] (Bl 0 (Lp (q [O aQ (.uO fi),ex aZ aQ 0] (S (H km .skip (X 0)) (Bl 1 (q [ex aX aQ 1,ex bj aQ 2,m p7 aX,m p8 bj] (q [m bk p1,m bo p8,nj aY bk bo,m bw p2,O bJ (.eq false .bool jo jp)] (H nY (q [m bP p7,m p6 bP] .ret) .skip))))))))) (q [O p6 (.bg (J 3 0))] .ret)))
def ZF:aE:=.code 39 [.cell p4 true 3,.tmp p5,.tmp p6] (q [O p4 (.alloc 292 [(i 4 0),v0,(.aC [])]),O p5 (.bg (C (.aC []))),bT p6] (q [m p8 p0,c p9 242 [t8],m p7 p9] (S (Bl 0 (q [m aQ p7,e aZ aQ 0,m aO aZ] (H fi (q [ld aX 3 p4,s 3 p4 aX,O p5 (.bg (C (.aC []))),k p6 10] .ret) (q [m bk p1,z bo bk,m aY p7,uA bw bo aY,m bj bw] (H jn (q [ld bJ 3 p4,s 3 p4 bJ,O p5 (.bg (C (.aC []))),k p6 2] .ret) (q [m bQ p1,c bM 243 [ql,(C (.func 244 [] []))],no bI bM,m bG bI,ez bR p0 bG,ez b8 p1 bG,vQ bV 245 bR b8 bG,ma cC bV bG,o ct bG cC,m bP ct] (H kN (q [ld b7 3 p4,s 3 p4 b7,O p5 (.bg (C (.aC []))),k p6 11] .ret) .skip))))))) (q [m cR p0,m cD p1,c cY 246 [sM,rr],m cQ cY,ex cB cQ 0,ex bZ cQ 1,s 3 p4 cB,m p5 bZ] (q [ld dc 3 p4,m db p5,s 3 p4 dc,m p5 db,bT p6] .ret)))))
def ZG:aE:=.code 13 [.tmp p2] (q [f p2] (q [O p3 (.bg (C (.func 247 [] [])))] (q [m p4 p0,O p5 (.ku t4),O p6 (.arith .leq 3 t5 (I 3 200)),m p7 p6,K7 p8 p0 p7,K7 p9 p3 p7,BS aO 215 p8 p9 p7,rC aQ aO p7,y aZ p7 aQ,m p2 aZ] .ret)))
def ZH:aE:=.code 9 [.cell p4 true 6] (q [Ec p4] (q [m p5 p0,m p6 p1,m p7 p1,O p8 (.build [(.bool false),v0,v0,.nilFunc,v0,v0] [(0,1,t5),(1,1,t6),(2,1,t7),(3,1,(C (.func 234 [] []))),(4,1,i0),(5,1,i0)]),s 6 p4 p8] .ret))
def ZI:aE:=.code 24 [.tmp p2] (q [bT p2] (S (q [m p3 p0] (Bl 0 (S (q [K2 p5 p3 110 101 103,m p4 p5] (H t4 .skip (q [K2 p6 p3 110 111 116,m p4 p6] (H t4 .skip (q [K8 p7 p3 115 105 122 101,m p4 p7] (H t4 .skip (q [K8 p8 p3 115 104 111 119,m p4 p8] (H t4 .skip (r [K8 p9 p3 114 101 97 100,m p4 p9]))))))))) (H t4 (q [k p2 1] .ret) (S (q [O aQ (.il .eql t3 (C (.aC [97,100,100]))),m aO aQ] (H fi .skip (q [K2 aZ p3 115 117 98,m aO aZ] (H fi .skip (q [K2 aX p3 109 117 108,m aO aX] (H fi .skip (q [K2 bj p3 100 105 118,m aO bj] (H fi .skip (q [K2 bk p3 109 111 100,m aO bk] (H fi .skip (q [ux bo p3 108 116,m aO bo] (H fi .skip (q [ux aY p3 108 101,m aO aY] (H fi .skip (q [ux bw p3 101 113,m aO bw] (H fi .skip (q [K8 bJ p3 106 111 105 110,m aO bJ] (H fi .skip (q [K8 bP p3 98 121 116 101,m aO bP] (H fi .skip (r [K8 bQ p3 115 97 109 101,m aO bQ]))))))))))))))))))))) (H fi (q [k p2 2] .ret) (q [K2 bI p3 99 117 116,m bM bI] (H na (q [k p2 3] .ret) .skip)))))))) (q [bT p2] .ret)))
def ZJ:aE:=.code 9 [.tmp p4] (q [b p3 297 p1,f p4] (q [m p5 p0,qq p6 249 p3,c p7 248 [t5,t6],no p8 p7,m p4 p8] .ret))
def ZK:aE:=.code 64 [.tmp p2] (q [b p1 292 p0,f p2] (S (q (eF p3 p1 p4 []) (Bl 0 (q (cw p6 4 p4 0 p5 []) (H t5 (q [ld p7 3 p1,O p8 (.build [(i 4 0),v0,(.aC [])] []),O p9 (.eq false (.eW [(0,1,false,.int),(1,1,false,.int),(2,1,false,.aC)]) t7 t8),m p2 p9] .ret) (q (cw aQ 4 p4 1 aO []) (H fi (q (a aZ 1 p1::l aX aZ::c bj 250 [lI]::m bk bj::eo bo 2 p1 bk aY [G bw (.il .eql jo (C (.aC []))) bk true,y bJ bk bw,m p2 bJ]) .ret) (q (cw bQ 4 p4 2 bP []) (H kN (q (a bM 1 p1::l bI bM::pz bG bI::c bR 251 [i0,i1,rp]::m b8 bR::eo bV 2 p1 b8 cC [G ct (.il .eql t28 (C (.aC []))) b8 true,y b7 b8 ct,m p2 b7]) .ret) (q (cw cR 4 p4 3 cQ []) (H my (q (a cD 1 p1::l cY cD::e cB cY 0::m bZ cB::eo dc 2 p1 bZ db [BQ di 252 db bZ,y du bZ di,m p2 du]) .ret) (q [O cS (.arith .eql 4 t4 (I 4 4)),m dg cS] (H px (q (a de 1 p1::l dw de::e dC dw 0::m dh dC::eo cK 2 p1 dh dD [BQ dN 253 dD dh,y dT dh dN,m p2 dT]) .ret) .skip)))))))))))) (q (eF ey p1 dp (cw cU 4 dp 5 dX (eo eC 1 p1 dX dU (G eP (.arith .geq 3 BD i0) dX true::y dY dX eP::m ef dY::eo eQ 2 p1 ef eg [G eD (.il .eql BE (C (.aC []))) ef true,y ff ef eD,m p2 ff])))) .ret)))
def ZL:aE:=.code 83 [.tmp p4] (q [f p4] (q [m p8 p1,O p9 (.buildSlice 5 2 [(i 4 0)] [(0,1,(I 4 1)),(1,1,(I 4 1))]),c aO 254 [t8,t9],m aQ p1,O aZ (.buildSlice 5 2 [(i 4 0)] [(0,1,(I 4 3)),(1,1,(I 4 3))]),c aX 254 [kM,km],m bj p1,O bk (.buildSlice 5 2 [(i 4 0)] [(0,1,(I 4 2)),(1,1,(I 4 2))]),c bo 254 [jn,l9],m p5 aO,m p6 aX,m p7 bo] (S (q [m aY p0] (Bl 0 (S (q [O bJ (.il .eql jo (C (.aC [97,100,100]))),m bw bJ] (H jp .skip (q [K2 bP aY 115 117 98,m bw bP] (H jp .skip (q [K2 bQ aY 109 117 108,m bw bQ] (H jp .skip (q [K2 bM aY 100 105 118,m bw bM] (H jp .skip (r [K2 bI aY 109 111 100,m bw bI]))))))))) (H jp (q [m bG p5,m p4 bG] .ret) (S (q [ux b8 aY 108 116,m bR b8] (H ur .skip (r [ux bV aY 108 101,m bR bV]))) (H ur (q [m cC p5,m ct cC,ez b7 p6 ct,o cQ ct b7,m p4 cQ] .ret) (q [ux cD aY 101 113,m cR cD] (H sM (q [m cY p5,m cB cY,ez bZ p6 cB,o dc cB bZ,m db dc,ez di p7 db,o du db di,m p4 du] .ret) (q [K2 cS aY 110 101 103,m dg cS] (H px (q [m de p1,O dw (.buildSlice 5 1 [(i 4 0)] [(0,1,(I 4 1))]),c dC 254 [vN,py],m p4 dC] .ret) (q [K2 cK aY 110 111 116,m dh cK] (H t46 (q [m dD p1,O dN (.buildSlice 5 1 [(i 4 0)] [(0,1,(I 4 2))]),c dT 254 [uv,vO],m p4 dT] .ret) (S (q [K8 dp aY 115 105 122 101,m ey dp] (H t51 .skip (r [K8 cU aY 114 101 97 100,m ey cU]))) (H t51 (q [m dX p1,O eC (.buildSlice 5 1 [(i 4 0)] [(0,1,(I 4 3))]),c dU 254 [sP,BC],m p4 dU] .ret) (q [K8 dY aY 115 104 111 119,m eP dY] (H uw (q [m ef p1,O eQ (.buildSlice 5 1 [(i 4 0)] [(0,1,(I 4 1))]),c eg 254 [xu,sQ],m eD eg,ez ff p1 eD,G fw (.buildSlice 5 1 [(i 4 0)] [(0,1,(I 4 2))]) eD false,vQ eR 254 ff fw eD,o eI eD eR,m p4 eI] .ret) (q [K8 eh aY 106 111 105 110,m gu eh] (H zM (q [m fH p6,m p4 fH] .ret) (q [K8 fW aY 98 121 116 101,m fI fW] (H sR (q [m fP p1,O eZ (.buildSlice 5 2 [(i 4 0)] [(0,1,(I 4 3)),(1,1,(I 4 1))]),c fX 254 [xy,BH],m p4 fX] .ret) (q [K2 gN aY 99 117 116,m fg gN] (H zO (q [m fY p1,O gX (.buildSlice 5 3 [(i 4 0)] [(0,1,(I 4 3)),(1,1,(I 4 1)),(2,1,(I 4 1))]),c fJ 254 [BI,zP],m p4 fJ] .ret) .skip)))))))))))))))))))))) (q [m iz p1,O iA (.buildSlice 5 2 [(i 4 0)] [(0,1,(I 4 5)),(1,1,(I 4 5))]),c ic 254 [zQ,BJ],m p4 ic] .ret))))
def ZM:aE:=.code 13 [.tmp p2] (q [f p2] (q [m p3 p0,O p4 (.arith .lss 2 t3 (I 2 32)),m p5 p4,ez p6 p0 p5,ng p7 2 p6 126 p5,o p8 p5 p7,m p9 p8,K7 aO p0 p9,G aQ (.arith .neq 2 fi (I 2 10)) p9 true,y aZ p9 aQ,m p2 aZ] .ret))
def ZN:aE:=.code 9 [.tmp p4] (q [f p4] (q [m p5 p0,m p6 p1,c p7 263 [t5,t6],oP p8 p7,m p4 p8] .ret))
def ZO:aE:=.code 8 [.tmp p3] (q [b p2 292 p0,f p3] (q [l p4 p1,ld p5 3 p2,nj p6 p4 p5,no p7 p6,m p3 p7] .ret))
def ZP:aE:=.code 27 [.tmp p4] (q [f p4] (S (q [m p7 p0,z p8 p7,m p9 p1,z aO p9,uA aQ p8 aO] (H kM (q [f p4] .ret) .skip)) (S (q [m aZ p0,z aX aZ,bT bj] (Bl 0 (Lp (q [u bk bj aX] (S (H l9 .skip (X 0)) (S (Bl 1 (q [m bo bj,x aY 3 aZ bj,ld bw 3 aY,O p6 (.alloc 292 [(i 4 0),v0,(.aC [])]),m p5 bo,s 3 p6 bw] (q (eF bJ p6 bP (j5 bQ p1 bM p5 bI bG [O bR (.arith .neq 4 kN rp)])) (H ur (q [f p4] .ret) .skip)))) (r (gP b8 bj [])))))))) (q [kl p4] .ret))))
def ZQ:aE:=.code 19 [.tmp p4] (q [bT p4] (S (q [m p6 p0,z p7 p6,bT p8] (Bl 0 (Lp (q [u p9 p8 p7] (S (H t9 .skip (X 0)) (S (Bl 1 (q [m aO p8,m p5 aO] (q [m aQ p1,m aZ p0,m aX p5,x bj 3 aZ aX,ld bk 3 bj,nj bo aQ bk] (H jZ (q [m aY p5,m p4 aY] .ret) .skip)))) (r (gP bw p8 [])))))))) (q [O p4 (.bg (J 3 0))] .ret)))
structure Tb(ab:Nat→aE):Prop where
 ZR:ab 7=Xx
 ZS:ab 9=Xy
 ZT:ab 11=Xz
 ZU:ab 13=XA
 ZV:ab 18=XB
 ZW:ab 23=XC
 ZX:ab 26=XD
 ZY:ab 28=XE
 ZZ:ab 29=XF
 Z0:ab 33=XG
 Z1:ab 34=XH
 Z2:ab 37=XI
 Z3:ab 39=XJ
 Z4:ab 40=XK
 Z5:ab 41=XL
 Z6:ab 42=XM
 Z7:ab 45=XN
 Z8:ab 50=XO
 Z9:ab 51=XP
 Z':ab 52=XQ
 aaa:ab 53=XR
 aab:ab 59=XS
 aac:ab 60=XT
 aad:ab 61=XU
 Ii:ab 68=XV
 aae:ab 73=XW
 aaf:ab 74=XX
 aag:ab 75=XY
 aah:ab 77=XZ
 aai:ab 78=X8
 aaj:ab 79=X9
 aak:ab 80=X'
 aal:ab 82=Ya
 aam:ab 83=Yb
 aan:ab 84=Yc
 aao:ab 85=Yd
 aap:ab 88=Ye
 aaq:ab 89=Yf
 aar:ab 91=Yg
 Ij:ab 96=Yh
 aas:ab 113=Yi
 aat:ab 114=Yj
 aau:ab 115=Yk
 aav:ab 116=Yl
 aaw:ab 117=Ym
 aax:ab 118=Yn
 aay:ab 119=Yo
 aaz:ab 120=Yp
 aaA:ab 121=Yq
 aaB:ab 122=Yr
 aaC:ab 124=Ys
 aaD:ab 125=Yt
 aaE:ab 126=Yu
 aaF:ab 127=Yv
 aaG:ab 128=Yw
 aaH:ab 129=Yx
 aaI:ab 131=Yy
 aaJ:ab 140=Yz
 NO:ab 141=YA
 aaK:ab 142=YB
 aaL:ab 143=YC
 aaM:ab 144=YD
 aaN:ab 145=YE
 aaO:ab 146=YG
 aaP:ab 147=YH
 aaQ:ab 149=YI
 aaR:ab 151=YJ
 aaS:ab 171=YK
 aaT:ab 172=YL
 aaU:ab 173=YM
 aaV:ab 174=YN
 aaW:ab 175=YO
 aaX:ab 176=YP
 aaY:ab 177=YQ
 aaZ:ab 178=YR
 aa0:ab 179=YS
 aa1:ab 180=YT
 aa2:ab 181=YU
 aa3:ab 182=YV
 aa4:ab 191=YW
 aa5:ab 192=YX
 NP:ab 193=YY
 aa6:ab 194=YZ
 aa7:ab 195=Y0
 aa8:ab 196=Y1
 aa9:ab 197=Y2
 aba:ab 198=Y3
 abb:ab 199=Y4
 abc:ab 200=Y5
 abd:ab 201=Y6
 abe:ab 202=Y7
 abf:ab 203=Y8
 abg:ab 204=Y9
 abh:ab 205=Y'
 abi:ab 206=Za
 abj:ab 207=Zb
 abk:ab 208=Zc
 abl:ab 209=Zd
 abm:ab 210=Ze
 abn:ab 211=Zf
 abo:ab 214=Zg
 abp:ab 215=Zh
 NQ:ab 216=Zi
 abq:ab 217=Zj
 abr:ab 218=Zk
 abs:ab 219=Zl
 abt:ab 220=Zm
 abu:ab 221=Zn
 abv:ab 222=Zo
 abw:ab 223=Zp
 abx:ab 224=Zq
 aby:ab 225=Zr
 abz:ab 226=Zs
 abA:ab 227=Zt
 abB:ab 228=Zu
 abC:ab 229=Zv
 abD:ab 230=Zw
 abE:ab 231=Zx
 abF:ab 232=Zy
 abG:ab 233=Zz
 abH:ab 234=ZA
 abI:ab 235=ZB
 abJ:ab 236=ZC
 abK:ab 237=ZD
 abL:ab 238=ZE
 abM:ab 239=ZF
 abN:ab 240=ZG
 abO:ab 241=ZH
 abP:ab 242=ZI
 abQ:ab 243=ZJ
 abR:ab 244=ZK
 abS:ab 245=ZL
 abT:ab 247=ZM
 abU:ab 248=ZN
 abV:ab 249=ZO
 abW:ab 254=ZP
 abX:ab 263=ZQ
 Ik:ab 38=.gZ wS
 abY:ab 148=.gZ wT
 agG:ab 1001=.eB ug
 abZ:ab 1002=.eB wR
 agH:ab 1003=.eB A8
 ab0:ab 1004=.eB (Bb 178)
 ab1:ab 1005=.eB (Bc 178)
end Go.ak.R
namespace Go.ak.R
section
variable{ab:Nat→aE}{b σ:Type}
def uB(agg:Bool)(cs:List AV):AV:=if agg then .agg cs else cs.headD .aiw
def BT(size:Nat)(agg:Bool)(x:aG):bO:=if agg then .fZ size x else .aW x
theorem RO.NR{c:Cx}{l:List aS}{s:List SI}{L:Kn}{H:af}{d:Option ac}{size o:Nat}{agg:Bool}{cs:List AV}{q:ac}{x:aG}(hc:cs.length=size)(h1:agg=false→size=1)(hat:∀t v,cs[t]?=some v→bh H q (o+t)=some v)(hrd:fj H q o size=some cs)(h:RO ab c l s (bA L d (uB agg cs)) H)(hx:aV L x=.aw q o:=by(conv=>lhs;whnf)<;>rfl):RO ab c (⟨d,BT size agg x,none,[],[]⟩::l) s L H:=by
 cases agg with
 |true=>exact RO.fZ h (hx:=hx) (hc:=hrd)
 |false=>
  have:=h1 rfl;subst this;obtain⟨v,rfl⟩:∃v,cs=[v]:=by match cs,hc with|[v],_=>exact⟨v,rfl⟩
  exact RO.aW h (hx:=hx) (hc:=hat 0 v rfl)
def qv(ab:Nat→aE)(A:af)(fv:AV)(R:af→b→List AV→Prop)(agg:Bool)(T:σ→List Th)(I:σ→Prop)(st:σ→b→Bool×σ)(la:List b):Prop:=
 ∀s a cs H us,a∈la→I s→R A a cs→ai A H (T s++us)→YF ab fv [uB agg cs] H λv H'=>v=.bool (st s a).1∧I (st s a).2∧∃c,ai A H' (T (st s a).2++c++us)
def nk(st:σ→b→Bool×σ):σ→List b→Nat→Option Nat×σ
 |s,[],_=>(none,s)
 |s,a::l,k=>if(st s a).1 then(some k,(st s a).2)else nk st (st s a).2 l (k+1)
def gE(st:σ→b→Bool×σ):σ→List b→Bool×σ
 |s,[]=>(true,s)
 |s,a::l=>if(st s a).1 then gE st (st s a).2 l else(false,(st s a).2)
theorem NS(st:σ→b→Bool×σ):∀(l:List b)(s:σ)(k:Nat),((nk (λs a=>(!(st s a).1,(st s a).2)) s l k).1.isSome=!(gE st s l).1)∧(nk (λs a=>(!(st s a).1,(st s a).2)) s l k).2=(gE st s l).2
 |[],s,k=>by simp[nk,gE]
 |a::l,s,k=>by
  simp only[nk,gE];cases h:(st s a).1;·simp
  simpa using NS st l (st s a).2 (k+1)
def NT:Option Nat→AV
 |some k=>aN k
 |none=>.int 3 (.negSucc 0)
theorem ab2(o:Option Nat):∃z,NT o=aI z∧decide (0≤z)=o.isSome:=by cases o with|none=>exact⟨-1,rfl,rfl⟩|some k=>exact⟨.ofNat k,rfl,by simp⟩
def Il(ld:bO)(size:Nat):bp:=(.seq (.region [O p4 (.bg (I 3 0))]) (.seq (.seq (.region [O p6 (.bg (T p0)),O p7 (.jN (T p6)),O p8 (.bg (I 3 0))]) (.block 0 (.loop (.seq (.region [O p9 (.arith .lss 3 (T p8) (T p7))]) (.seq (.cond (T p9) .skip (.exit 0)) (.seq (.block 1 (.seq (.region [O aO (.bg (T p8)),O p5 (.bg (T aO))]) (.seq (.region [O aQ (.bg (T p1)),O aZ (.bg (T p0)),O aX (.bg (T p5)),O bj (.dk size (T aZ) (T aX)),O bk ld,O bo (.call (T aQ) [(T bk)])]) (.cond (T bo) (.seq (.region [O aY (.bg (T p5)),O p4 (.bg (T aY))]) .ret) .skip)))) (.region [O bw (.arith .add 3 (T p8) (I 3 1)),O p8 (.bg (T bw))]))))))) (.seq (.region [O p4 (.bg (J 3 0))]) .ret)))
theorem ab3{f p size:Nat}{agg:Bool}(u:ab f=.code p [.tmp p4] (Il (BT size agg (ak.T bj)) size))(B:2≤p)(h1:agg=false→size=1){A H:af}{fv sv:AV}{R:af→b→List AV→Prop}{T:σ→List Th}{I:σ→Prop}{st:σ→b→Bool×σ}{la:List b}{s:σ}{us:List Th}(C:fv.bB=true)(o:qv ab A fv R agg T I st la)(w:∀a cs,R A a cs→(uB agg cs).bB=true)(hs:dL size R A la sv)(hl:la.length≤1000000)(m:I s)(U:ai A H (T s++us)){K:AV→af→Prop}(q:∀H' d,I (nk st s la 0).2→ai A H' (T (nk st s la 0).2++d++us)→K (NT (nk st s la 0).1) H'):YF ab (.func f [] []) [sv,fv] H K:=by
 have⟨hd,_,_,E⟩:=hs.all;refine YF.code u (by simp;omega) ?_;refine au ?_;refine Ru.nm λS M x r=>?_;refine Ru.cA r (up (P:=λk=>∀g h,nk st h (la.drop k) k=nk st s la 0→I h→(∃d,ai A g (T h++d++us))→Ru ab _ S ([(p8,aN k)]++pk M [p0,p1,p7]) g) la.length (λk F y g h c m U=>?_) 0 (by omega) _ s rfl m ⟨[],by simpa using U⟩);subst x;subst r;refine Ru.loop ?_;refine au ?_;refine Ru.cond (λe=>?_) (λe=>?_)
 ·rw[agR e]at c;simp only[nk]at c;obtain⟨d,U⟩:=U;refine au ?_;refine RO.cP U.gr hs λG o1 cs hj t z hat hrd=>?_;have D:=w _ _ t;refine RO.NR z h1 hat hrd ?_;refine RO.cl ((o h la[k] cs g (d++us) (af0 e) m t (by simpa using U)).mono ?_);rintro v H'⟨rfl,i,j,l⟩;refine au ?_;refine Ru.kh (λn=>?_) (λn=>?_);·rw[n]at c;simp only[bm]at c;refine au ?_;refine Ru.aT ?_;have:=q H' (j++d) (by rw[←c];exact i) (by rw[←c];simpa using l);rw[←c]at this;exact this
  rw[n]at c;simp only[ac6,bK]at c;refine au ?_;exact Ru.wk (y (k+1) (by omega) (by omega) H' _ c i ⟨j++d,by simpa using l⟩)
 rw[List.drop_of_length_le (by omega)]at c;simp only[nk]at c;obtain⟨d,U⟩:=U;refine Ru.exitTo ?_;refine au ?_;refine Ru.aT ?_;have:=q g d (by rw[←c];exact m) (by rw[←c];exact U);rw[←c]at this;exact this
def NU(g:Nat):bp:=(.seq (.region [O p4 (.bg (C (.bool false)))]) (.seq (.region [O p5 (.bg (T p0)),O p6 (.bg (T p1)),O p7 (.call (C (.func g [] [])) [(T p5),(T p6)]),O p8 (.arith .geq 3 (T p7) (I 3 0)),O p4 (.bg (T p8))]) .ret))
def ab4(e cl a:Nat):bp:=(.seq (.region [O p3 (.box e (T p1)),O p4 (.bg (C (.bool false)))]) (.seq (.region [O p5 (.bg (T p0)),O p6 (.iG cl [] [(T p3)]),O p7 (.call (C (.func a [] [])) [(T p5),(T p6)]),O p8 (.unary .not (T p7)),O p4 (.bg (T p8))]) .ret))
def ab5:bp:=(.seq (.region [O p3 (.bg (C (.bool false)))]) (.seq (.region [O p4 (.aW (T p1)),O p5 (.bg (T p0)),O p6 (.call (T p4) [(T p5)]),O p7 (.unary .not (T p6)),O p3 (.bg (T p7))]) .ret))
def ab6(t n:Nat):bp:=(.seq (.region [O p2 (.box t (T p0)),O p3 (.bg (C (.bool false)))]) (.seq (.region [O p4 (.aW (T p1)),O p5 (.fZ n (T p2)),O p6 (.call (T p4) [(T p5)]),O p7 (.unary .not (T p6)),O p3 (.bg (T p7))]) .ret))
section
variable{A H:af}{fv sv:AV}{R:af→b→List AV→Prop}{T:σ→List Th}{I:σ→Prop}{st:σ→b→Bool×σ}{la:List b}{s:σ}{us:List Th}
theorem ab7{f g k mt size:Nat}{agg:Bool}(l:ab f=.code mt [.tmp p4] (NU g))(p:2≤mt)(hg:ab g=.code k [.tmp p4] (Il (BT size agg (ak.T bj)) size))(d:2≤k)(h1:agg=false→size=1)(e:fv.bB=true)(h:qv ab A fv R agg T I st la)(m:∀a cs,R A a cs→(uB agg cs).bB=true)(hs:dL size R A la sv)(hl:la.length≤1000000)(n:I s)(U:ai A H (T s++us)){K:AV→af→Prop}(o:∀H' c,I (nk st s la 0).2→ai A H' (T (nk st s la 0).2++c++us)→K (.bool (nk st s la 0).1.isSome) H'):YF ab (.func f [] []) [sv,fv] H K:=by have⟨hd,_,_,q⟩:=hs.all;refine YF.code l (by simp;omega) ?_;refine au ?_;refine RO.cl (ab3 hg d h1 e h m hs hl n U λH' c i j=>?_);obtain⟨z,e1,e2⟩:=ab2 (nk st s la 0).1;rw[e1];refine RO.geq (b:=0) ?_;rw[e2];refine au ?_;exact Ru.aT (o H' c i j)
theorem BU{f g h p mt r size e cl:Nat}{agg:Bool}(t:ab f=.code r [.tmp p4] (ab4 e cl g))(y:2≤r)(hg:ab g=.code mt [.tmp p4] (NU h))(l:2≤mt)(u:ab h=.code p [.tmp p4] (Il (BT size agg (ak.T bj)) size))(m:2≤p)(h1:agg=false→size=1)(z:fv.bB=true)(n:fv.dQ=true)(c:fv.cells=[fv])(o:∀q,qv ab A (.func cl [] [.aw q 0]) R agg (λs=>tB e q [fv]::T s) I (λs a=>(!(st s a).1,(st s a).2)) la)(v:∀a cs,R A a cs→(uB agg cs).bB=true)(hs:dL size R A la sv)(hl:la.length≤1000000)(w:I s)(U:ai A H (T s++us)){K:AV→af→Prop}(x:∀H' k,I (gE st s la).2→ai A H' (T (gE st s la).2++k++us)→K (.bool (gE st s la).1) H'):YF ab (.func f [] []) [sv,fv] H K:=by have⟨hd,_,_,B⟩:=hs.all;obtain⟨e1,e2⟩:=NS st la s 0;refine YF.code t (by simp;omega) ?_;refine au ?_;refine RO.dS U (λH1 q d=>?_) (ho:=by rw[c];exact ao n rfl);rw[c]at d;refine au ?_;refine RO.cl (ab7 hg l u m h1 rfl (o q) v hs hl w d λH' k i j=>?_);rw[e1];refine au ?_;rw[e2]at i j;refine Ru.aT ?_;rw[Bool.not_not];exact x H' k i j.tail
theorem Im{cl h e:Nat}(j:ab cl=.code h [.tmp p3] ab5)(n:2≤h)(o:fv.bB=true)(k:∀a cs,R A a cs→(uB false cs).bB=true)(c:qv ab A fv R false T I st la)(q:ac):qv ab A (.func cl [] [.aw q 0]) R false (λs=>tB e q [fv]::T s) I (λs a=>(!(st s a).1,(st s a).2)) la:=by intro s a cs H us l m i U;have p:=k a cs i;refine YF.code j (by simp;omega) ?_;refine bz ?_;refine RO.cl ((c s a cs H (tB e q [fv]::us) l m i U.DJ).mono ?_);rintro v H'⟨rfl,d,f,g⟩;refine bz ?_;exact Ru.aT ⟨rfl,d,f,by have:=g.vE;simpa using this⟩
theorem NV{cl j e t n:Nat}(m:ab cl=.code j [.tmp p3] (ab6 t n))(r:2≤j)(u:fv.bB=true)(o:∀a cs,R A a cs→cs.length=n∧dI cs=true)(f:qv ab A fv R true T I st la)(q:ac):qv ab A (.func cl [] [.aw q 0]) R true (λs=>tB e q [fv]::T s) I (λs a=>(!(st s a).1,(st s a).2)) la:=by intro s a cs H us hm p k U;obtain⟨c,l⟩:=o a cs k;refine YF.code m (by simp;omega) ?_;refine au ?_;refine RO.dS U (λH1 d U=>?_) (v:=.agg cs);refine au ?_;refine RO.gM U 1 ?_;refine RO.eG U 0 (m:=n) ?_ (hm:=by show 0+n≤cs.length;omega);rw[show((AV.agg cs).cells.drop 0).take n=cs by show(cs.drop 0).take n=cs;rw[List.drop_zero,←c,ah2]];refine RO.cl ((f s a cs H1 (tB t d cs::tB e q [fv]::us) hm p k (ai.gC (xs:=[tB t d cs,tB e q [fv]]) U)).mono ?_);rintro v H'⟨rfl,g,h,i⟩;refine bz ?_;exact Ru.aT ⟨rfl,g,h,by have:=(ai.lE (xs:=[tB t d cs,tB e q [fv]]) i).tail;simpa using this⟩
end
end
end Go.ak.R
namespace Go.ak
section
def tX(q:ac)(o:b9):Th where
 P H a:=q∈a∧(∀j∈a,j=q)∧H.get q=o∧q.al<H.next.al
 fr h b hg:=⟨h.1,h.2.1,by rw[hg _ h.1];exact h.2.2.1,ag6 h.2.2.2 b⟩
 lt h:=by intro j hj;rw[h.2.1 j hj];exact h.2.2.2
variable{A H H':af}{ts us:List Th}{q:ac}{o o':b9}
variable{ab:Nat→aE}{c:Cx}{s:List SI}{L:Kn}{d:Option ac}{l:List aS}
theorem ai.zT(U:ai A H ts)(o:b9):ai A (H.new o) (tX H.next o::ts):=U.push (fp:=[H.next]) (bf.new H o) ⟨ac3.2 rfl,λj hj=>ac3.1 hj,by rw[af.dt,aH rfl],by rw[af.mT];omega⟩ (uk H)
theorem ai.sV(U:ai A H ts)(i:Nat)(hi:ts[i]?=some (tX q o))(o':b9):ai A (H.set q o') (ts.set i (tX q o')):=by
 obtain⟨b,a,_,hu⟩:=U.jV i hi;refine hu (fp':=[q]) ⟨Nat.le_of_eq (by rw[af.fR]),λj hj=>?_,λj hj c=>?_⟩ ⟨ac3.2 rfl,λj hj=>ac3.1 hj,by rw[af.aD,aH rfl],by exact a.2.2.2⟩;·rw[ac3]at hj;subst hj;exact .inl a.1
 rw[af.aD,an λe:j=q=>hj (by rw[e];exact a.1)]
theorem ai.qy(U:ai A H ts)(i:Nat)(hi:ts[i]?=some (tX q o)):H.get q=o:=by obtain⟨b,a⟩:=U.get i hi;exact a.2.2.1
theorem RO.qI(U:ai A H ts){x:aG}{t:List Nat}(h:∀H' q,ai A H' (tX q (.oq t t 0)::ts)→RO ab c l s (bA L d (.aw q 0)) H')(b:aV L x=.aC t:=by(conv=>lhs;whnf)<;>rfl):RO ab c (⟨d,.qI x,none,[],[]⟩::l) s L H:=RO.op (λaa a=>by simp only[aB,a.gv b rfl]) (h _ _ (U.zT _))
theorem RO.ab8(U:ai A H ts)(i:Nat){x:aG}{t:List Nat}{k:Nat}(h:RO ab c l s (bA L d (.tuple [.bool false])) H)(hi:ts[i]?=some (tX q (.oq t [] k)):=by rfl)(b:aV L x=.aw q 0:=by(conv=>lhs;whnf)<;>rfl):RO ab c (⟨d,.uO x,none,[],[]⟩::l) s L H:=RO.op (λaa a=>by simp only[aB,a.gv b rfl,U.qy i hi]) h
theorem RO.ab9(U:ai A H ts)(i:Nat){x:aG}{t r:List Nat}{k b:Nat}(hb:b<128)(h:∀H',ai A H' (ts.set i (tX q (.oq t r (k+1))))→RO ab c l s (bA L d (.tuple [.bool true,.int 3 (.ofNat k),.int 2 (.ofNat b)])) H')(hi:ts[i]?=some (tX q (.oq t (b::r) k)):=by rfl)(e:aV L x=.aw q 0:=by(conv=>lhs;whnf)<;>rfl):RO ab c (⟨d,.uO x,none,[],[]⟩::l) s L H:=RO.op (λaa a=>by simp only[aB,a.gv e rfl,U.qy i hi,show aha b 128=true from aiu ahF hb,bm]) (h _ (U.sV i hi _))
theorem RO.aca(U:ai A H ts)(h:∀H' q,ai A H' (tX q (.map [] 0)::ts)→RO ab c l s (bA L d (.map q)) H'):RO ab c (⟨d,.j7,none,[],[]⟩::l) s L H:=RO.j7 (h _ _ (U.zT _))
theorem RO.acb(U:ai A H ts)(i:Nat){e:ep}{m k w:aG}{kv v:AV}{es:List aR}{ck:Nat}(h:∀H',ai A H' (ts.set i (tX q (.map (es++[⟨kv,v,ck⟩]) (ck+1))))→RO ab c l s (bA L d .aiw) H')(hi:ts[i]?=some (tX q (.map es ck)):=by rfl)(g:aV L m=.map q:=by(conv=>lhs;whnf)<;>rfl)(j:aV L k=kv:=by(conv=>lhs;whnf)<;>rfl)(n:aV L w=v:=by(conv=>lhs;whnf)<;>rfl)(b:kv.bB=true:=by first|rfl|assumption)(f:v.bB=true:=by first|rfl|assumption)(o:jk e kv=true:=by rfl)(p:findKey e kv es 0=some none:=by rfl):RO ab c (⟨d,.ju e m k w,none,[],[]⟩::l) s L H:=RO.op (λaa a=>by simp only[aB,a.gv g rfl,a.gv j b,a.gv n f,o,ag9,ac6,bK,U.qy i hi,p]) (h _ (U.sV i hi _))
theorem RO.acd(U:ai A H ts)(i:Nat){e:ep}{z:AV}{m k:aG}{kv:AV}{es:List aR}{ck:Nat}{r:Option (Nat×AV)}(f:findKey e kv es 0=some r)(h:RO ab c l s (bA L d (.tuple (match r with|some p=>[p.2,.bool true]|none=>[z,.bool false]))) H)(hi:ts[i]?=some (tX q (.map es ck)):=by rfl)(g:aV L m=.map q:=by(conv=>lhs;whnf)<;>rfl)(j:aV L k=kv:=by(conv=>lhs;whnf)<;>rfl)(b:kv.bB=true:=by first|rfl|assumption)(n:jk e kv=true:=by rfl):RO ab c (⟨d,.lookup e z true m k,none,[],[]⟩::l) s L H:=RO.op (λaa a=>by simp only[aB,a.gv g rfl,a.gv j b,n,ag9,ac6,bK,U.qy i hi,f,bm];grind) h
theorem gQ{aa:am AV}{p:ac}{x:aG}{i:ac}{o:Nat}{v:AV}{re:List i9}(b:Le L aa)(d:aV L x=.aw i o)(f:lk L p=v)(hd:v.bB=true)(hs:hZ v v=true)(a:bh H i o=some v)(g:fh aa H re=true):fh aa H (⟨p,.aW x,none⟩::re)=true:=by
 have e:ja H (.aw i o) 1 false=some v:=by
  unfold bh at a;split at a
  ·rename_i cc n _ _ _ _ hg;split at a;·rename_i hb;injection a with a;have c:o<n:=ahF.mp hb;simp only[ja,fj,hg,ip,aH c,a,ac6,bK];rfl
   cases a
  cases a
 simp only[fh,ft,bm,aB,b.gv d rfl,e,ahb,b.get f hd,hs,g,aiq]
theorem RO.Ed{f:aG}{args:List aG}{fv:AV}{a:List AV}{p:ac}{x:aG}{i:ac}{o:Nat}{v:AV}(h:YF ab fv a H λr H'=>bh H' i o=some v∧RO ab c l s (bA L d r) H')(k:∀r,aV (bA L d r) x=.aw i o:=by(intro r;conv=>lhs;whnf)<;>rfl)(m:∀r,lk (bA L d r) p=v:=by(intro r;conv=>lhs;whnf)<;>rfl)(b:v.bB=true:=by first|rfl|assumption)(hvs:hZ v v=true:=by first|rfl|assumption|simp[hZ,fM,fA])(n:aV L f=fv:=by(conv=>lhs;whnf)<;>rfl)(e:fv.bB=true:=by first|rfl|assumption)(q:args.map (aV L)=a:=by rfl)(g:a.all AV.bB=true:=by repeat first|rfl|assumption|(refine ad ?_ ?_)):RO ab c (⟨d,.call f args,none,[],[⟨p,.aW x,none⟩]⟩::l) s L H:=RO.G5 (h.mono λr H' h=>⟨λaa j=>gQ j (k r) (m r) b hvs h.1 rfl,h.2⟩) n e q g
def sW(L:Kn)(H:af):List iH→List AV→Prop
 |[],[]=>True
 |.tmp p::a,v::b=>lk L p=v∧v.bB=true∧sW L H a b
 |.cell p agg n::a,v::b=>(∃q o,lk L p=.aw q o∧ja H (.aw q o) n agg=some v)∧sW L H a b
 |_,_=>False
theorem sW.xf{aa:am AV}(a:Le L aa):∀{b:List iH}{c:List AV},sW L H b c→gG aa H b=some c|[],[],_=>rfl|.tmp p::b,v::c,h=>by simp only[gG,sW.xf a h.2.2,ahb,a.get h.1 h.2.1]|.cell p agg n::b,v::c,h=>by obtain⟨⟨q,o,h1,h2⟩,h3⟩:=h;simp only[gG,sW.xf a h3,a.get h1 rfl,h2]|[],_::_,h=>h.elim|.tmp _::_,[],h=>h.elim|.cell .. ::_,[],h=>h.elim
theorem RJ.ace{j:cG}{b:List iH}{K:AV→af→Prop}{c:List AV}(hj:j=.none∨j=.ret)(d:sW L H b c)(h:K (iu c) H):RJ ab (vA b K) j [] L H:=λaa a=>by have:=d.xf (H:=H) a;rcases hj with rfl|rfl<;>simp only[jU,pi,jw,this]<;>exact h
theorem Ru.lj{a:List iH}{K:AV→af→Prop}{vs:List AV}{s:List SI}(b:sW L H a vs)(h:K (iu vs) H):Ru ab (vA a K) (.code .ret::s) L H:=Ru.ret (RJ.vu (RJ.ace (.inr rfl) b h))
theorem ai.agg(U:ai A H ts)(i:Nat){e n:Nat}{a:List AV}(hi:ts[i]?=some (tB e q a):=by rfl)(b:a.length=n:=by rfl):ja H (.aw q 0) n true=some (.agg a):=by subst b;obtain⟨d,c⟩:=U.get i hi;have:=tB.pj (o:=0) (m:=a.length) c (by omega);simp[this,ja,bm,List.drop_zero,ah2]
theorem ai.one(U:ai A H ts)(i:Nat){e:Nat}{v:AV}(hi:ts[i]?=some (tB e q [v]):=by rfl):ja H (.aw q 0) 1 false=some v:=by obtain⟨b,a⟩:=U.get i hi;have:=tB.pj (o:=0) (m:=1) a (by simp);simp[this,ja,ac6,bK]
end
end Go.ak
namespace Go.ak.R
section
variable{ab:Nat→aE}
theorem Io(T:Tb ab){H:af}{a b n:Int}{K:AV→af→Prop}(c:K (.bool (decide (a≤n∧n≤b))) H):YF ab (.func No [] []) [aI a,aI b,aI n] H K:=by
 refine YF.code T.aa5 (by simp) ?_;refine au ?_;refine RO.cX (λh=>?_) (λh=>?_);·refine bz ?_;refine Ru.aT ?_;simpa[h]using c
 refine bz ?_;refine Ru.aT ?_;simpa[h]using c
theorem xD(T:Tb ab){H:af}{a b n:Int}(h:a≤n∧n≤b){K:AV→af→Prop}(c:K (.bool true) H):YF ab (.func No [] []) [aI a,aI b,aI n] H K:=Io T (by rw[decide_eq_true h];exact c)
def NW(ab:Nat→aE)(fv:AV)(t:List Nat):Prop:=∀b∈t,b<128∧∀{H:af},YF ab fv [.int 2 (.ofNat b)] H λv H'=>v=.bool false∧H'=H
theorem acf(T:Tb ab){H:af}{fv:AV}{t:List Nat}(h:fv.bB=true)(d:NW ab fv t){K:AV→af→Prop}(e:∀H',bf H H'→K (aI (-1)) H'):YF ab (.func WN [] []) [.aC t,fv,.bool true] H K:=by
 refine YF.code T.abL (by simp) ?_;refine au ?_;refine RO.qI (ai.cW H) λH1 q U=>?_;refine au ?_;refine Ru.nm λS M f c=>?_;refine Ru.cA c (up (P:=λk=>∀b,ai H b [tX q (.oq t (t.drop k) k)]→Ru ab _ S ([]++pk M [p0,p1,p2,aO]) b) t.length (λk i g b U=>?_) 0 (by omega) _ U);subst f;subst c;refine Ru.loop ?_;refine au ?_;by_cases a:k<t.length;·rw[agR a]at U;obtain⟨h1,h2⟩:=d _ (af0 a);refine RO.ab9 U 0 h1 λj U=>?_;refine au ?_;refine RO.cl (h2.mono ?_);rintro v l⟨rfl,rfl⟩;refine au ?_;refine RO.eq (t:=false) ?_;refine au ?_;exact Ru.wk (g (k+1) (by omega) (by omega) _ U)
 rw[List.drop_of_length_le (by omega)]at U;refine RO.ab8 U 0 ?_;refine au ?_;refine Ru.exitTo ?_;refine au ?_;exact Ru.aT (e _ U.gr)
theorem NX(T:Tb ab){H:af}{fv:AV}{t:List Nat}(a:fv.bB=true)(b:NW ab fv t){K:AV→af→Prop}(c:∀H',bf H H'→K (.bool false) H'):YF ab (.func WA [] []) [.aC t,fv] H K:=by
 refine YF.code T.abp (by simp) ?_;refine au ?_;have h2:YF ab (.func WI [] []) [.aC t,fv] H λv H'=>v=aI (-1)∧bf H H':=by refine YF.code T.abD (by simp) ?_;refine au ?_;refine RO.cl (acf T a b λH' hg=>?_);refine au ?_;exact Ru.aT ⟨rfl,hg⟩
 refine RO.cl (h2.mono ?_);rintro v H'⟨rfl,hg⟩;refine RO.geq (a:= -1) (b:=0) ?_;refine au ?_;exact Ru.aT (c _ hg)
def rF(t:List Nat):Prop:=1≤t.length∧t.length≤40∧∀b∈t,33≤b∧b≤126∧b≠34
def Ee(t:List Nat):Prop:=t.length≤200∧∀b∈t,(32≤b∧b≤126)∨b=10
theorem Ip(T:Tb ab){H:af}{t:List Nat}(a:rF t){K:AV→af→Prop}(c:∀H',bf H H'→K (.bool true) H'):YF ab (.func Nn [] []) [.aC t] H K:=by
 obtain⟨h1,h2,h3⟩:=a;refine YF.code T.aa4 (by simp) ?_;refine au ?_;refine RO.ku ?_;refine au ?_;refine RO.cl (xD T (a:=1) (b:=40) (n:=t.length) (by omega) ?_);refine bz ?_;refine RO.cl (NX T (fv:=.func Wz [] []) rfl (λb hb=>?_) λH1 hg=>?_);·obtain⟨e,f,d⟩:=h3 b hb;refine⟨by omega,λ{H}=>?_⟩;refine YF.code T.abo (by simp) ?_;refine au ?_;refine RO.cX (λh=>by omega) (λh=>?_);refine bz ?_;refine RO.cX (λh=>by omega) (λh=>?_);refine bz ?_;refine Ru.aT ⟨?_,rfl⟩;rw[decide_eq_false d]
 refine bz ?_;exact Ru.aT (c _ hg)
theorem acg(T:Tb ab){H:af}{t:List Nat}(a:Ee t){K:AV→af→Prop}(c:∀H',bf H H'→K (.bool true) H'):YF ab (.func Nu [] []) [.aC t] H K:=by
 obtain⟨h1,h3⟩:=a;refine YF.code T.abN (by simp) ?_;refine au ?_;refine RO.ku ?_;refine au ?_;refine RO.cX (λh=>?_) (λh=>by simp at h;omega);refine bz ?_;refine RO.cl (NX T (fv:=.func WT [] []) rfl (λb hb=>?_) λH1 hg=>?_)
 ·have d:=h3 b hb;refine⟨by omega,λ{H}=>?_⟩;refine YF.code T.abT (by simp) ?_;refine au ?_;refine RO.cX (λh=>?_) (λh=>?_);·refine bz ?_;refine Ru.aT ⟨?_,rfl⟩;rw[decide_eq_false (by omega)]
  refine bz ?_;refine RO.cX (λh=>by omega) (λh=>?_);refine bz ?_;exact Ru.aT ⟨rfl,rfl⟩
 refine bz ?_;exact Ru.aT (c _ hg)
theorem ach(T:Tb ab){H:af}{K:AV→af→Prop}(a:K (.bool true) H):YF ab (.func Nt [] []) [.aC []] H K:=by refine YF.code T.abH (by simp) ?_;refine au ?_;refine RO.il ?_;refine au ?_;exact Ru.aT a
def BV:List (List Nat):=[[110,101,103],[110,111,116],[115,105,122,101],[115,104,111,119],[114,101,97,100]]
def BW:List (List Nat):=[[97,100,100],[115,117,98],[109,117,108],[100,105,118],[109,111,100],[108,116],[108,101],[101,113],[106,111,105,110],[98,121,116,101],[115,97,109,101]]
def BX:List (List Nat):=[[99,117,116]]
def gV(t:List Nat):Nat:=if t∈BV then 1 else if t∈BW then 2 else if t∈BX then 3 else 0
theorem uS:∀{a b:List Nat},jO a b=true↔a=b
 |[],[]=>by simp[jO]
 |a::l,b::m=>by
  simp only[jO,agM,uS (a:=l) (b:=m),ag4];constructor;·exact λh=>⟨agO h.1,h.2⟩
  exact λh=>⟨h.1▸ahQ a,h.2⟩
 |[],_::_=>by simp[jO]
 |_::_,[]=>by simp[jO]
theorem pA(a b:List Nat):jO a b=decide (a=b):=by
 cases h:jO a b;·symm;rw[decide_eq_false_iff_not];intro e;rw[uS.2 e]at h;cases h
 symm;rw[decide_eq_true_eq];exact uS.1 h
theorem RO.Bn{c:Cx}{s:List SI}{L:Kn}{H:af}{d:Option ac}{l:List aS}{x y:aG}{a b:List Nat}(h:RO ab c l s (bA L d (.bool (decide (a=b)))) H)(e:aV L x=.aC a:=by(conv=>lhs;whnf)<;>rfl)(f:aV L y=.aC b:=by(conv=>lhs;whnf)<;>rfl):RO ab c (⟨d,.il .eql x y,none,[],[]⟩::l) s L H:=RO.il (v:=.bool (decide (a=b))) h e rfl f rfl (by simp only[Ag,pA])
set_option maxHeartbeats 4000000 in theorem aci(T:Tb ab){H:af}{t:List Nat}{K:AV→af→Prop}(a:K (aN (gV t)) H):YF ab (.func WQ [] []) [.aC t] H K:=by
 refine YF.code T.abP (by simp) ?_;refine au ?_;repeat' first|refine RO.Bn (RO.cX (λh=>?_) (λh=>?_))|refine RO.bg ?_|refine RO.nil ?_|refine Ru.region ?_|refine Ru.seq ?_|refine Ru.block ?_|refine Ru.skip ?_|refine Ru.aF ?_|refine Ru.oD ?_|refine Ru.mQ ?_|refine Ru.aT ?_
 all_goals
  first|(subst_vars;exact a)|
   (
    have e:gV t=0:=by simp[gV,BV,BW,BX, *]
    rw[e]at a;exact a)
abbrev zv:List AV:=[aU 0,aI 0,.aC []]
def xE:af→Unit→List AV→Prop:=λ_ _ cs=>cs=zv
theorem acj(T:Tb ab){H:af}{d f:AV}{g:List Unit}{ks:List Nat}(h:dL 3 xE H g d)(i:Hc H ks f)(l:0<g.length)(h0:∀k∈ks,k≠0){K:AV→af→Prop}(j:∀H',bf H H'→K (.bool false) H'):YF ab (.func Nv [] []) [d,f] H K:=by
 have⟨hd,_,_,hl⟩:=h.all;have⟨n,_,_,p⟩:=i.all;refine YF.code T.abW (by simp) ?_;refine au ?_;refine Ru.cond (λb=>?_) (λb=>?_);·refine au ?_;exact Ru.aT (j H (bf.refl H))
 refine au ?_;refine Ru.loop ?_;refine au ?_;refine Ru.cond (λa=>?_) (λa=>absurd l a);refine au ?_;refine RO.cP (bf.refl H) h λq o cs hj m s hat hrd=>?_;cases m;refine bz ?_;refine RO.gk (ai.cW H) λH1 t U=>?_;refine bz ?_;refine RO.iL U 0 (λu U=>?_);refine bz ?_;refine RO.jX U.gr i (λv o2 c r=>?_) (hj:=by omega);refine bz ?_;refine Ru.cond (λa=>?_) (λa=>?_);·refine bz ?_;exact Ru.aT (j _ U.gr)
 exact(a λe=>h0 _ (af0 c) e.symm).elim
theorem ack(T:Tb ab){H:af}{K:AV→af→Prop}(a:∀H' q,ai H H' [tB Hf q zv]→K (.bool true) H'):YF ab (.func HL [] []) [.agg zv] H K:=by refine YF.code T.abR (by simp) ?_;refine au ?_;refine RO.dS (ai.cW H) λH1 q U=>?_;refine bz ?_;refine RO.eG U 0 ?_;refine bz ?_;refine RO.eq (t:=true) ?_;refine bz ?_;exact Ru.aT (a _ q U)
theorem acl(T:Tb ab){H:af}{d:AV}{b:List Unit}(f:dL 3 xE H b d)(k:b.length≤4){K:AV→af→Prop}(g:∀H',bf H H'→K (.bool true) H'):YF ab (.func WR [] []) [d,.func HL [] []] H K:=by
 have i:qv ab H (.func HL [] []) xE true (λ_:Unit=>[]) (λ_=>True) (λs _=>(true,s)) b:=by rintro s a cs H us _ _ rfl U;refine ack T λH' q c=>⟨rfl,trivial,[tB Hf q zv],by simpa using U.fF c⟩
 have e:∀(l:List Unit)s,gE (λ(s:Unit)(_:Unit)=>(true,s)) s l=(true,s):=λl=>by induction l with|nil=>intro s;rfl|cons a l j=>intro s;simpa[gE]using j s
 refine BU T.abQ (by decide) T.abU (by decide) T.abX (size:=3) (agg:=true) (by decide) (λh=>by cases h) (st:=λs _=>(true,s)) (T:=λ_:Unit=>[]) (I:=λ_=>True) (s:=()) (us:=[]) rfl rfl rfl (NV T.abV (by decide) rfl (λa cs h=>by cases h;exact⟨rfl,rfl⟩) i) (λa cs h=>by cases h;rfl) f (by omega) trivial (ai.cW H) λH' m _ U=>?_;rw[e];exact g H' U.gr
def nz:AV→Bool
 |.int 4 (.ofNat (_+1))=>true
 |_=>false
theorem NY:∀{a:List AV},a.all nz=true→∃ks:List Nat,a=ks.map aU∧∀k∈ks,k≠0
 |[],_=>⟨[],rfl,λ_ h=>by cases h⟩
 |w::a,h=>by
  simp only[List.all_cons,agM]at h;obtain⟨ks,e,h2⟩:=NY h.2;have h1:=h.1;unfold nz at h1;split at h1;·rename_i k;exact⟨(k+1)::ks,by rw[e];rfl,λj hj=>(adC.1 hj).elim (λe=>by omega) (h2 j)⟩
  cases h1
theorem RO.bsK{B:af}{c:Cx}{s:List SI}{L:Kn}{H:af}{d:Option ac}{l:List aS}{e n:Nat}{b a:List AV}{f:List (Nat×Nat×aG)}(i:bf B H)(h:∀v H',bf B H'→Sl H' 1 a a.length v→v.bB=true→RO ab c l s (bA L d v) H')(hl:pQ L (fx b n) f=some a:=by(conv=>lhs;whnf)<;>rfl)(j:a.length=n:=by rfl)(h1:dI a=true:=by rfl):RO ab c (⟨d,.buildSlice e n b f,none,[],[]⟩::l) s L H:=by subst j;refine RO.buildSlice ?_ hl h1;have g:dK (H.new (.cells (cM a) (a.length*1) e true [] 0)) [H.next] e 1 a a.length true (.slice H.next 0 a.length a.length true):=dK.new (ah9 _).symm true true;rw[ah9]at g;exact h _ _ (i.trans (bf.new H _)) g.sl rfl
theorem acn(T:Tb ab){B H:af}{b c:AV}{d:List Unit}{a:List AV}(e:bf B H)(f:dL 3 xE B d b)(g:0<d.length)(i:Sl H 1 a a.length c)(h0:a.all nz=true){K:AV→af→Prop}(j:∀H',bf B H'→K (.bool false) H'):YF ab (.func Nv [] []) [b,c] H K:=by obtain⟨ks,rfl,h1⟩:=NY h0;exact acj T (ks:=ks) (dH.jD (λ_ h=>h) e f) (by simpa using i) g h1 λH' hg=>j H' (e.trans hg)
set_option maxHeartbeats 4000000 in theorem aco(T:Tb ab){H:af}{t:List Nat}{b:AV}{c:List Unit}(d:dL 3 xE H c b)(e:0<c.length){K:AV→af→Prop}(f:∀H',bf H H'→K (.bool false) H'):YF ab (.func WS [] []) [.aC t,b] H K:=by
 have⟨hd,_,_,_⟩:=d.all;have a:=bf.refl H;refine YF.code T.abS (by simp) ?_;repeat' first|refine RO.Bn (RO.cX (λ_=>?_) (λ_=>?_))|refine RO.bg ?_|refine RO.nil ?_|refine RO.bsK a (λ_ _ a hs _=>?_)|(refine RO.cl (acn T a d e hs rfl λ_ a=>?_))|refine Ru.region ?_|refine Ru.seq ?_|refine Ru.block ?_|refine Ru.skip ?_|refine Ru.aF ?_|refine Ru.oD ?_|refine Ru.mQ ?_|refine RO.sC ?_|refine RO.xg ?_|refine RO.zB ?_|refine RO.zC ?_|refine Ru.aT ?_
 all_goals exact f _ (by assumption)
theorem acp(T:Tb ab){H:af}{t:List Nat}{g:AV}{b:List Unit}(d:dL 3 xE H b g)(hl:b.length≤gV t)(h0:0<gV t){K:AV→af→Prop}(c:∀H',bf H H'→K (.tuple [.agg zv,.aC [],aN (if b.length=gV t then 11 else 2)]) H'):YF ab (.func WO [] []) [.aC t,g] H K:=by
 have⟨hd,_,_,i⟩:=d.all;have h3:gV t≤3:=by unfold gV;split<;>(try split)<;>(try split)<;>omega
 refine YF.code T.abM (by simp) ?_;refine au ?_;refine RO.gk (ai.cW H) λH1 q U=>?_;refine bz ?_;refine RO.cl (aci T ?_);refine bz ?_;refine Ru.cond (λ(h:gV t=0)=>absurd h (by omega)) (λ_=>?_);refine bz ?_;refine Ru.cond (λh=>?_) (λh=>?_);·refine bz ?_;refine RO.eG U 0 ?_;refine RO.iL U 0 (λf U=>?_);refine bz ?_;have a:b.length≠gV t:=λe=>h (by rw[e]);rw[an a]at c;exact Ru.lj (vs:=[_,_,_]) ⟨⟨q,0,rfl,U.agg 0⟩,rfl,rfl,rfl,rfl,trivial⟩ (c _ U.gr)
 have a:b.length=gV t:=Classical.not_not.1 h;rw[aH a]at c;refine bz ?_;refine RO.cl (acl T (dH.jD (λ_ h=>h) U.gr d) (by omega) λf hg=>?_);have U:=U.cV hg;refine bz ?_;refine RO.cl (aco T (dH.jD (λ_ h=>h) U.gr d) (by omega) λf hg=>?_);have U:=U.cV hg;refine bz ?_;refine RO.eG U 0 ?_;refine RO.iL U 0 (λf U=>?_);refine bz ?_;exact Ru.lj (vs:=[_,_,_]) ⟨⟨q,0,rfl,U.agg 0⟩,rfl,rfl,rfl,rfl,trivial⟩ (c _ U.gr)
theorem acq{H:af}{k:Nat}{a:AV}(b:k≤3)(h:Sl H 3 ((fx zv 4).take (k*3)) k a):dL 3 xE H (af3 k ()) a:=by
 refine⟨_,by simpa using h,λj hj=>?_⟩;simp only[ahM]at hj;match k,b with
  |0,_=>omega
  |1,_=>match j,hj with|0,_=>rfl
  |2,_=>match j,hj with|0,_=>rfl|1,_=>rfl
  |3,_=>match j,hj with|0,_=>rfl|1,_=>rfl|2,_=>rfl
theorem acr(T:Tb ab){H:af}{t:List Nat}(h0:0<gV t){K:AV→af→Prop}(d:∀H',bf H H'→K (.tuple [aN (gV t),.bool true]) H'):YF ab (.func WJ [] []) [.aC t] H K:=by
 have h3:gV t≤3:=by unfold gV;split<;>(try split)<;>(try split)<;>omega
 refine YF.code T.abF (by simp) ?_;refine au ?_;refine RO.nV (ai.cW H) (n:=4) (λH1 q U=>?_) (hz:=rfl);refine au ?_;refine Ru.nm λS M e c=>?_;refine Ru.cA c (up (P:=λk=>∀b,ai H b [tS Hf 3 (fx zv 4) 4 true (.slice q 0 4 4 true)]→Ru ab _ S ([(aZ,aN k)]++pk M [p0,p4,aO,aQ]) b) (gV t) (λk f g b U=>?_) 0 (by omega) _ U);subst e;subst c;refine Ru.loop ?_;refine au ?_;refine Ru.cond (λ(i:k<4)=>?_) (λh=>absurd (show k<4 by omega) h);refine au ?_;refine RO.U7 (U.sl 0) (λj hs=>?_);have hz:=acq (by omega) hs;have hd:=hz.bB;refine au ?_;refine RO.cl (acp T hz (by simpa using f) h0 λl hg=>?_);have U:=U.cV hg;rw[ahM];refine au ?_;refine RO.fG U (λm n U=>?_);refine au ?_;by_cases a:k=gV t;·rw[aH a];refine bz ?_;refine Ru.sB ?_;rw[a];exact d _ U.gr
 rw[an a];refine bz ?_;exact Ru.wk (g (k+1) (by omega) (by omega) _ U.tail)
structure pB where
 uC:Bool
 Ef:Int
 Eg:Int
 nm:Nat
 Eh:Int
 Ei:Int
def xF:Nat→AV
 |0=>.func Nt [] []
 |1=>.func Nn [] []
 |_=>.func Nu [] []
def vT(r:pB):AV:=.agg [.bool r.uC,aI r.Ef,aI r.Eg,xF r.nm,aI r.Eh,aI r.Ei]
def rG:List (Nat×pB):=[(1,⟨true,0,0,0, -1000000000,1000000000⟩),(2,⟨true,0,0,0,0,1⟩),(3,⟨true,0,0,2,0,0⟩),(4,⟨true,0,0,0,0,0⟩),(11,⟨true,0,0,1,0,0⟩),(40,⟨true,0,1073741824,1,0,0⟩),(15,⟨true,0,6,1,0,0⟩),(18,⟨true,0,6,1,0,0⟩),(37,⟨true,0,0,1,0,0⟩),(38,⟨false,1,1,1,0,0⟩),(16,⟨true,1,1,1,0,5⟩),(17,⟨false,2,2,1,0,5⟩),(23,⟨false,1,1,0,0,0⟩),(24,⟨true,0,0,0,1,8⟩),(25,⟨false,2,2,0,0,0⟩),(26,⟨true,1,1,0,0,0⟩),(31,⟨false,0,0,0,0,0⟩),(32,⟨false,1,1,0,0,0⟩),(33,⟨true,0,0,0,0,0⟩),(34,⟨false,0,0,0,0,0⟩),(35,⟨true,1,1,0,0,0⟩),(39,⟨false,0,0,0,0,0⟩),(64,⟨true,1,1,0,0,3⟩)]
def sX:Nat→List (Nat×pB)→List aR
 |_,[]=>[]
 |b,p::l=>⟨aU p.1,vT p.2,b⟩::sX (b+1) l
def BY(op:Nat):List (Nat×pB)→Nat→Option (Nat×pB)
 |[],_=>none
 |p::l,i=>if op=p.1 then some (i,p.2)else BY op l (i+1)
theorem Iq(op:Nat):∀l b i,findKey .int (aU op) (sX b l) i=some ((BY op l i).map λp=>(p.1,vT p.2))
 |[],_,_=>rfl
 |p::l,b,i=>by
  have e:dZ 64 .int (aU op) (aU p.1)=some (decide (op=p.1)):=by
   show(if(4:Nat)=4 then some (iB (.ofNat op) (.ofNat p.1))else none)=_;rw[aH rfl];congr 1;by_cases h:op=p.1;·simp[iB,h]
   simp only[iB,h,decide_false];cases hb:agQ op p.1 with|false=>rfl|true=>exact absurd (agO hb) h
  simp only[sX,findKey,e,BY];by_cases h:op=p.1;·simp[h]
  simp only[h,decide_false,bK];exact Iq op l (b+1) (i+1)
theorem acs(T:Tb ab){H:af}{b:Bool}{n:Int}{K:AV→af→Prop}(a:∀H',bf H H'→K (vT ⟨b,n,n,0,0,0⟩) H'):YF ab (.func WP [] []) [.bool b,aI n] H K:=by refine YF.code T.abO (by simp) ?_;refine au ?_;refine RO.gk (ai.cW H) λH1 q U=>?_;refine bz ?_;refine RO.iL U 0 (λc U=>?_);refine bz ?_;exact Ru.lj (vs:=[_]) ⟨⟨q,0,rfl,U.agg 0⟩,trivial⟩ (a _ U.gr)
theorem Ir(T:Tb ab){H:af}{b:Bool}{n m:Int}{K:AV→af→Prop}(a:∀H',bf H H'→K (vT ⟨b,n,m,1,0,0⟩) H'):YF ab (.func WK [] []) [.bool b,aI n,aI m] H K:=by refine YF.code T.abG (by simp) ?_;refine au ?_;refine RO.gk (ai.cW H) λH1 q U=>?_;refine bz ?_;refine RO.iL U 0 (λc U=>?_);refine bz ?_;exact Ru.lj (vs:=[_]) ⟨⟨q,0,rfl,U.agg 0⟩,trivial⟩ (a _ U.gr)
theorem NZ:∀(l:List (Nat×pB))(b:Nat)(p:Nat×pB),sX b (l++[p])=sX b l++[⟨aU p.1,vT p.2,b+l.length⟩]|[],_,_=>rfl|a::l,b,p=>by simp only[ahC,sX,NZ l (b+1) p,ahh,ah3,Nat.add_comm 1]
theorem RO.act{c:Cx}{s:List SI}{L:Kn}{H A:af}{d:Option ac}{l:List aS}{q:ac}{b:List Th}{k op:Nat}{r:pB}{m w:aG}(U:ai A H (tX q (.map (sX 0 (rG.take k)) k)::b))(f:rG[k]?=some (op,r))(h:∀H',ai A H' (tX q (.map (sX 0 (rG.take (k+1))) (k+1))::b)→RO ab c l s (bA L d .aiw) H')(g:BY op (rG.take k) 0=none:=by rfl)(i:aV L m=.map q:=by(conv=>lhs;whnf)<;>rfl)(j:aV L w=vT r:=by(conv=>lhs;whnf)<;>rfl):RO ab c (⟨d,.ju .int m (.c (aU op)) w,none,[],[]⟩::l) s L H:=by
 refine RO.acb U 0 (kv:=aU op) (λH' a=>h H' ?_) rfl i rfl j rfl rfl rfl (by show findKey .int (aU op) _ 0=_;rw[Iq,g];rfl);obtain⟨n,_⟩:=ahv.1 f;have e:rG.take (k+1)=rG.take k++[(op,r)]:=by rw[List.take_add_one,f];rfl
 have e2:(rG.take k).length=k:=by rw[ahl];omega
 rw[e,NZ,e2,agW];exact a
set_option maxHeartbeats 4000000 in theorem acu(T:Tb ab){H:af}{K:AV→af→Prop}(a:∀H' q,ai H H' [tX q (.map (sX 0 rG) 23)]→K (.map q) H'):YF ab (.func WL [] []) [] H K:=by
 refine YF.code T.abI (by simp) ?_;refine au ?_;refine RO.aca (ai.cW H) λH1 q U=>?_;have U:ai H H1 (tX q (.map (sX 0 (rG.take 0)) 0)::[]):=U;repeat first|refine RO.build ?_|refine RO.act U rfl (λ_ U=>?_)|(refine RO.cl (acs T λ_ hg=>?_);have U:=U.cV hg)|(refine RO.cl (Ir T λ_ hg=>?_);have U:=U.cV hg)|refine RO.bg ?_|refine RO.nil ?_
 exact Ru.aT (a _ q U)
def xG(s:G.gW):Option pB:=
 if s.op=14 then(if 0<gV s.name then some ⟨true,gV s.name,gV s.name,1,0,0⟩else none)
 else if s.op=13 then(if s.m=1 then some ⟨true,0,6,1,0,0⟩else some ⟨true,1,7,0,0,0⟩)
 else(BY s.op rG 0).map (·.2)
theorem acv(T:Tb ab){H:af}{s:G.gW}{cs:List AV}(hs:pU H s cs){r:pB}(a:xG s=some r){K:AV→af→Prop}(d:∀H',bf H H'→K (.tuple [vT r,.bool true]) H'):YF ab (.func WB [] []) [.agg cs] H K:=by
 have k:=hs.one;obtain⟨o,rfl,j⟩:=hs;have⟨hd,_,_,t⟩:=j.all;refine YF.code T.abs (by simp) ?_;refine au ?_;refine RO.dS (ai.cW H) λH1 q U=>?_;refine bz ?_;refine RO.gk U λu e U=>?_;refine bz ?_;unfold xG at a;refine Ru.cond (λc=>?_) (λc=>?_)
 ·rw[aH c]at a;split at a;case isFalse=>cases a
  rename_i h0;injection a with a;subst a;refine bz ?_;refine RO.cl (acr T h0 λg hg=>?_);have U:=U.cV hg;refine bz ?_;refine RO.cl (Ir T λg hg=>?_);have U:=U.cV hg;refine bz ?_;refine RO.iL U 0 (λf U=>?_);refine bz ?_;exact Ru.lj (vs:=[_,_]) ⟨⟨e,0,rfl,U.agg 0⟩,rfl,rfl,trivial⟩ (d _ U.gr)
 rw[an c]at a;refine bz ?_;refine RO.cX (λb=>?_) (λb=>?_)
 ·rw[aH b]at a;refine bz ?_;refine Ru.cond (λ(h1:s.m=1)=>?_) (λ(h1:¬s.m=1)=>?_);·rw[aH h1]at a;injection a with a;subst a;refine bz ?_;refine RO.cl (Ir T λg hg=>?_);have U:=U.cV hg;refine RO.iL U 0 (λf U=>?_);refine bz ?_;exact Ru.lj (vs:=[_,_]) ⟨⟨e,0,rfl,U.agg 0⟩,rfl,rfl,trivial⟩ (d _ U.gr)
  rw[an h1]at a;injection a with a;subst a;refine bz ?_;refine Ru.cond (λh=>?_) (λh=>absurd b h);refine bz ?_;refine RO.iL U 0 (λf U=>?_);refine bz ?_;exact Ru.lj (vs:=[_,_]) ⟨⟨e,0,rfl,U.agg 0⟩,rfl,rfl,trivial⟩ (d _ U.gr)
 rw[an b]at a;refine bz ?_;refine Ru.cond (λh=>absurd h b) (λh=>?_);refine bz ?_;refine RO.Ed (acu T λg v l=>?_);have U:=U.fF l;obtain⟨w,i⟩:=U.get 2 rfl;refine⟨tB.cell (v:=aU s.op) i rfl,?_⟩;obtain⟨p,i,rfl⟩:=afi.1 a;have n:(xF p.2.nm).dQ=true:=by unfold xF;split<;>rfl
 refine RO.acd U 0 (r:=some (p.1,vT p.2)) (by have:=Iq s.op rG 0 0;rw[i]at this;exact this) ?_;refine bz ?_;refine RO.iL U 1 (λf U=>?_);refine bz ?_;refine RO.eG U 1 ?_;refine bz ?_;refine RO.iL U 1 (λf U=>?_);refine bz ?_;exact Ru.lj (vs:=[_,_]) ⟨⟨e,0,rfl,U.agg 1⟩,rfl,rfl,trivial⟩ (d _ U.gr)
section
def fT(g:G.bu)(c:AV)(a b:ac)(n:Nat)(s:List Bool):List Th:=[tB Ve a [.aC g.name,aI g.params,aI g.bi,c,.slice b 0 n n true],tS 4 1 (s.map .bool) n true (.slice b 0 n n true)]
def Ej:af→Int→List AV→Prop:=λ_ v cs=>cs=[aI v]
theorem iy.r{H:af}{l:List Int}{d:AV}(h:iy H l d):dL 1 Ej H l d:=⟨_,h,λk e=>by rw[ah9,agR (by simpa using e)];simp[Ej]⟩
def mB(g:G.bu)(s:List Bool)(v:Int):Bool×List Bool:=
 if g.params≤v∧v≤g.bi - 1 then(if s.getD v.toNat false then(false,s)else(true,s.set v.toNat true))else(false,s)
structure FV(g:G.bu)(n:Nat):Prop where
 h0:0≤g.params
 h1:g.params≤g.bi
 h2:g.bi≤6000
 h3:(n:Int)=g.bi
section
variable{g:G.bu}{c:AV}{a b:ac}{n:Nat}{A H:af}{us:List Th}
theorem acw(T:Tb ab)(V:FV g n){s:List Bool}(U:ai A H (fT g c a b n s++us)){v:Int}{K:AV→af→Prop}(d:K (.bool (decide (0≤v∧v≤g.bi - 1))) H):YF ab (.func HK [.aw a 0] []) [aI v] H K:=by obtain⟨h0,h1,h2,h3⟩:=V;refine YF.code T.abt (by simp) ?_;refine au ?_;refine RO.nilCheck ?_;refine bz ?_;refine RO.sub (a:=g.bi) (b:=1) ?_;refine bz ?_;refine RO.cl (Io T ?_);refine bz ?_;exact Ru.aT d
theorem acx(T:Tb ab)(V:FV g n)(d:List Int):qv ab A (.func HK [.aw a 0] []) Ej false (fT g c a b n) (λs=>s.length=n) (λs v=>(decide (0≤v∧v≤g.bi - 1),s)) d:=by rintro s v cs H us _ e rfl U;exact acw T V U ⟨rfl,e,[],by simpa using U⟩
theorem Is(T:Tb ab)(V:FV g n){s:List Bool}(hs:s.length=n)(U:ai A H (fT g c a b n s++us)){v:Int}{K:AV→af→Prop}(d:∀H',ai A H' (fT g c a b n (mB g s v).2++us)→K (.bool (mB g s v).1) H'):YF ab (.func HH [.aw a 0] []) [aI v] H K:=by
 unfold mB at d;obtain⟨h0,h1,h2,h3⟩:=V;refine YF.code T.aa6 (by simp) ?_;refine au ?_;refine RO.nilCheck ?_;refine bz ?_;refine RO.nilCheck ?_;refine bz ?_;refine RO.sub (a:=g.bi) (b:=1) ?_;refine bz ?_;refine RO.cl (Io T ?_);by_cases hv:g.params≤v∧v≤g.bi - 1
 ·simp only[aH hv]at d;rw[decide_eq_true hv];obtain⟨k,rfl⟩:∃k:Nat,v=(k:Int):=⟨v.toNat,by omega⟩;have e:k<s.length:=by omega
  simp only[agK]at d;refine bz ?_;refine RO.nilCheck ?_;refine bz ?_;refine RO.eH U 1 ?_ (hv:=pS false e);refine bz ?_;cases hg:s.getD k false with|true=>simp only[hg,bm]at d;refine bz ?_;exact Ru.aT (d H U)|false=>simp only[hg,ac6,bK]at d;refine bz ?_;refine RO.nilCheck ?_;refine bz ?_;refine RO.ml U 1 true hs (λH1 U=>?_);refine bz ?_;exact Ru.aT (d H1 U)
 simp only[an hv]at d;rw[decide_eq_false hv];refine bz ?_;exact Ru.aT (d H U)
theorem acy(T:Tb ab)(V:FV g n)(f:List Int):qv ab A (.func HH [.aw a 0] []) Ej false (fT g c a b n) (λs=>s.length=n) (mB g) f:=by
 rintro s v cs H us _ d rfl U;refine Is T V d U λH' e=>⟨rfl,?_,[],by simpa using e⟩;unfold mB;split
 ·split;·exact d
  simpa using d
 exact d
end
end
section
def It:Nat→List Nat→Prop
 |0,t=>t=[]
 |1,t=>rF t
 |_,t=>Ee t
structure vU(g:G.bu)(x:G.gW)(r:pB):Prop where
 acz:xG x=some r
 args:r.Ef≤x.args.length∧x.args.length≤r.Eg
 name:It r.nm x.name
 N0:r.Eh≤x.n∧x.n≤r.Ei
 wD:x.m=0∨x.op=13∧x.m=1
 oT:∀a∈x.args,0≤a∧a≤g.bi - 1
 to:r.uC=false→x.to= -1
def nq(g:G.bu)(s:List Bool)(x:G.gW):Bool×List Bool:=
 match xG x with
 |some r=>if r.uC then mB g s x.to else(true,s)
 |none=>(false,s)
theorem acA(T:Tb ab){H:af}{k:Nat}{t:List Nat}(h:It k t){K:AV→af→Prop}(a:∀H',bf H H'→K (.bool true) H'):YF ab (xF k) [.aC t] H K:=by match k,h with|0,h=>cases h;exact ach T (a _ (bf.refl H))|1,h=>exact Ip T h a|_+2,h=>exact acg T h a
theorem Iu{e σ:Type}{p:e→Bool}:∀{la:List e}{s:σ},(∀a∈la,p a=true)→gE (λs a=>(p a,s)) s la=(true,s)|[],_,_=>rfl|a::l,s,h=>by simp only[gE,h a (adc ..),bm];exact Iu λb hb=>h b (adD _ hb)
section
variable{g:G.bu}{d:AV}{c f:ac}{n:Nat}{A H:af}{us:List Th}
theorem Ek(T:Tb ab)(V:FV g n){s:List Bool}(hs:s.length=n){la:List Int}{j:AV}(k:iy A la j)(hl:la.length≤1000000)(l:∀a∈la,0≤a∧a≤g.bi - 1)(U:ai A H (fT g d c f n s++us)){K:AV→af→Prop}(m:∀H' i,ai A H' (fT g d c f n s++i++us)→K (.bool true) H'):YF ab (.func Np [] []) [j,.func HK [.aw c 0] []] H K:=by have e:=Iu (σ:=List Bool) (p:=λv=>decide (0≤v∧v≤g.bi - 1)) (la:=la) (s:=s) (λa h=>decide_eq_true (l a h));refine BU T.NP (by decide) T.Ii (by decide) T.Ij (size:=1) (agg:=false) (by decide) (λ_=>rfl) rfl rfl rfl (Im T.NQ (by decide) rfl (λa cs h=>by cases h;rfl) (acx T V la)) (λa cs h=>by cases h;rfl) (iy.r k) hl hs U λH' i _ b=>?_;rw[e]at b⊢;exact m H' i b
set_option maxHeartbeats 1000000 in theorem acB(T:Tb ab)(V:FV g n){s:List Bool}(hs:s.length=n){x:G.gW}{cs:List AV}(j:pU A x cs){r:pB}(y:vU g x r)(hl:x.args.length≤1000000)(U:ai A H (fT g d c f n s++us)){K:AV→af→Prop}(a:∀H' b,ai A H' (fT g d c f n (nq g s x).2++b++us)→K (.bool (nq g s x).1) H'):YF ab (.func HI [.aw c 0] []) [.agg cs] H K:=by
 have v:=j.one;have l:=j;obtain⟨E,rfl,e⟩:=j;have⟨hd,_,_,F⟩:=e.all;obtain⟨h1,h2,h3,z,B,t,u⟩:=y;simp only[nq,h1]at a;have i:(xF r.nm).dQ=true∧(xF r.nm).bB=true:=by unfold xF;split<;>exact⟨rfl,rfl⟩
 obtain⟨i,w⟩:=i;refine YF.code T.aa8 (by simp) ?_;refine au ?_;refine RO.dS U λH1 q U=>?_;refine au ?_;refine RO.eG U 0 ?_;refine au ?_;refine RO.cl (acv T (dH.step U.gr l) h1 λI hg=>?_);have U:=U.cV hg;refine au ?_;refine RO.fG U (λJ L U=>?_);refine bz ?_;refine RO.cl (xD T (a:=r.Ef) (b:=r.Eg) (n:=x.args.length) h2 ?_);refine bz ?_;refine RO.cl (acA T h3 λM hg=>?_);have U:=U.cV hg;refine bz ?_;refine RO.cl (xD T (a:=r.Eh) (b:=r.Ei) (n:=x.n) z ?_);refine bz ?_;refine RO.cX (λ(h:x.m≠0)=>?_) (λ(h:¬x.m≠0)=>?_)
 ·obtain⟨o,p⟩:=B.resolve_left h;refine bz ?_;refine RO.cX (λk=>absurd o k) (λ_=>?_);refine bz ?_;refine RO.cX (λk=>absurd p k) (λ_=>?_);refine bz ?_;refine RO.cl (Ek T V hs e hl t (ai.gC (xs:=[_,_]) U) λC b U=>?_);have U:=ai.lE (xs:=[_,_]) U;refine bz ?_;refine Ru.kh (λhg=>?_) (λhg=>?_);·simp only[ahA]at hg;simp only[hg,ac6,bK]at a;refine bz ?_;refine Ru.aT ?_;rw[show decide (x.to=Int.negSucc 0)=true from decide_eq_true (u hg)];exact a _ (b++[_,_]) (by have:=ai.gC (xs:=[_,_]) U;simpa using this)
  simp only[Bool.not_eq_false']at hg;simp only[hg,bm]at a;refine bz ?_;refine RO.cl (YF.nJ (Is T V hs (us:=b++[_,_]++us) (by have:=ai.gC (xs:=[_,_]) U;simpa using this) λD U=>?_));refine bz ?_;exact Ru.aT (a _ (b++[_,_]) (by simpa using U))
 refine bz ?_;refine RO.cl (Ek T V hs e hl t (ai.gC (xs:=[_,_]) U) λC b U=>?_);have U:=ai.lE (xs:=[_,_]) U;refine bz ?_;refine Ru.kh (λhg=>?_) (λhg=>?_);·simp only[ahA]at hg;simp only[hg,ac6,bK]at a;refine bz ?_;refine Ru.aT ?_;rw[show decide (x.to=Int.negSucc 0)=true from decide_eq_true (u hg)];exact a _ (b++[_,_]) (by have:=ai.gC (xs:=[_,_]) U;simpa using this)
 simp only[Bool.not_eq_false']at hg;simp only[hg,bm]at a;refine bz ?_;refine RO.cl (YF.nJ (Is T V hs (us:=b++[_,_]++us) (by have:=ai.gC (xs:=[_,_]) U;simpa using this) λD U=>?_));refine bz ?_;exact Ru.aT (a _ (b++[_,_]) (by simpa using U))
end
end
section
structure vV(g:G.bu)(e:G.Edge)(w:Nat):Prop where
 lo:1≤e.block
 hi:e.block<g.aj.length
 aK:(g.aj.getD e.block.toNat default).params.length=e.args.length+w
 oT:∀a∈e.args,0≤a∧a≤g.bi - 1
section
variable{g:G.bu}{b:AV}{c d:ac}{n:Nat}{A H:af}{us:List Th}
theorem acC(T:Tb ab)(V:FV g n)(o:G.Sm g)(hb:dL 7 jW A g.aj b){s:List Bool}(hs:s.length=n){e:G.Edge}{cs:List AV}(he:rl A e cs){w:Nat}(D:w≤1)(p:vV g e w)(hl:e.args.length≤1000000)(U:ai A H (fT g b c d n s++us)){K:AV→af→Prop}(r:∀H' i,ai A H' (fT g b c d n s++i++us)→K (.bool true) H'):YF ab (.func WM [] []) [.aw c 0,.agg cs,aN w] H K:=by
 have f:=he.one;obtain⟨E,rfl,a⟩:=he;have⟨hd,_,_,F⟩:=a.all;have⟨v,_,_,x⟩:=hb.all;obtain⟨h1,h2,h3,t⟩:=p;have y:=o.nb;obtain⟨k,u⟩:∃k:Nat,e.block=(k:Int):=⟨e.block.toNat,by omega⟩;rw[u]at h1 h2 h3 f⊢;have j:k<g.aj.length:=by omega
 rw[agK,bE j]at h3;refine YF.code T.abJ (by simp) ?_;refine au ?_;refine RO.dS U λH1 q U=>?_;refine au ?_;refine RO.nilCheck ?_;refine bz ?_;refine RO.arith (v:=aN (g.aj.length - 1)) ?_ (hv:=nU (by omega) (by omega));refine bz ?_;refine RO.cl (xD T (a:=1) (b:=(g.aj.length - 1:Nat)) (n:=(k:Int)) (by omega) ?_);refine bz ?_;refine RO.nilCheck ?_;refine bz ?_;refine RO.cP U.gr hb λI o1 c1 hj l z hat hrd=>?_;obtain⟨J,L,M,rfl,m,_,_⟩:=l;have⟨B,_,_,C⟩:=m.all;refine bz ?_;refine RO.cX (λ_=>?_) (λh=>absurd h3 h);refine bz ?_;refine RO.cl (Ek T V hs a hl t (ai.gC (xs:=[_]) U) λN i U=>?_);refine bz ?_;exact Ru.aT (r _ (i++[_]) (by simpa using U))
theorem acD(T:Tb ab)(V:FV g n)(y:G.Sm g)(hb:dL 7 jW A g.aj b){s:List Bool}(hs:s.length=n){es:List G.Edge}{t f:AV}{a:List Nat}(kI:dL 2 rl A es t)(hl:es.length=a.length)(F:es.length≤1000)(z:∀w∈a,w≤1)(B:∀k(h:k<es.length),vV g es[k] (a[k]'(by omega))∧es[k].args.length≤1000)(U:ai A H (fT g b c d n s++tS 3 1 (a.map aN) a.length true f::us)){K:AV→af→Prop}(C:∀H',ai A H' (fT g b c d n s++tS 3 1 (a.map aN) a.length true f::us)→K (.bool true) H'):YF ab (.func Nr [] []) [.aw c 0,t,f] H K:=by
 have⟨I,_,_,J⟩:=kI.all;have m:Sl H 1 (a.map aN) a.length f:=U.sl 2;have⟨L,_,_,N⟩:=m.all;refine YF.code T.abu (by simp) ?_;refine au ?_;refine Ru.cond (λh=>absurd hl (by simpa using h)) (λ_=>?_);refine au ?_;refine Ru.nm λS M D u=>?_;refine Ru.cA u (up (P:=λk=>∀l,ai A l (fT g b c d n s++tS 3 1 (a.map aN) a.length true f::us)→Ru ab _ S ([(bo,aN k)]++pk M [p0,p1,p2,bj,bk]) l) es.length (λk R E l U=>?_) 0 (by omega) _ U);subst D;subst u;refine Ru.loop ?_;refine au ?_;refine Ru.cond (λi=>?_) (λi=>?_);·obtain⟨o,O⟩:=B k i;refine au ?_;refine RO.cP U.gr kI λW o1 c1 hj e P hat hrd=>?_;have v:=e.one;have j:=e;obtain⟨X,rfl,p⟩:=e;have⟨hd,_,_,Y⟩:=p.all;refine bz ?_;refine RO.gk U λH1 q U=>?_;refine bz ?_;refine RO.iL U 0 (λZ U=>?_);refine bz ?_;refine RO.eG U 0 ?_;refine au ?_;obtain⟨wq,x,Q,rfl⟩:=U.uj 3 rfl (by omega);refine bz ?_;refine RO.eH U 3 ?_ (hv:=pS 0 (show k<a.length by omega));refine au ?_;have r:a.getD k 0=a[k]'(by omega):=bE (by omega) 0;rw[r];refine RO.cl (acC T V y hb hs j (z _ (af0 _)) o (by omega) (ai.gC (xs:=[_]) U) λH3 gs U=>?_);refine au ?_;exact Ru.wk (E (k+1) (by omega) (by omega) _ (ai.lE (xs:=[_]) U.skip).tail)
 refine Ru.exitTo ?_;refine au ?_;exact Ru.aT (C _ U)
end
end
end
end Go.ak.R
end
