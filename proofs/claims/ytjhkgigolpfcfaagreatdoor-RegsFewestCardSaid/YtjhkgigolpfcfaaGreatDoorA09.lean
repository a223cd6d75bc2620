/- A part of the proof. No conditions. -/
import Derived.Test.YtjhkgigolpfcfaaGreatDoorA05
import Derived.Test.YtjhkgigolpfcfaaGreatDoorA06
import Derived.Test.YtjhkgigolpfcfaaGreatDoorA07
import Derived.Test.YtjhkgigolpfcfaaGreatDoorA08
set_option linter.all false
open Option.some renaming injEq->adG
open Option renaming map_eq_some_iff->aho
open List renaming mem_singleton->aep,mem_cons_of_mem->aey,mem_cons_self->aeU,replicate->ahr,length_cons->akA,length_take->akF,getElem?_cons_succ->ak6,length_drop->alC
open Nat renaming eq_of_beq_eq_true->aj4,beq->akb,le_of_ble_eq_true->akc,blt->akv,blt_eq->akY,ble->ak2,add_assoc->alo,min_eq_left->aly
open List.Perm renaming cons->akO,swap->akS
open Eq renaming mpr->alN
noncomputable section
namespace Go.am.R
abbrev Ih:=292
abbrev dW:=56
abbrev mE:=161
abbrev fI:=24
abbrev wA:=257
abbrev eH:=42
abbrev yi:=217
abbrev nN:=260
abbrev tx:=54
abbrev qU:=58
abbrev yj:=64
abbrev Ii:=255
abbrev Ij:=252
abbrev ND:=256
abbrev V9:=246
abbrev V':=194
abbrev Wa:=195
abbrev Wb:=61
abbrev Wc:=78
abbrev iH:=72
abbrev NE:=168
abbrev Ik:=123
abbrev eT:=82
abbrev oU:=79
abbrev NF:=197
abbrev wB:=196
abbrev nO:=139
abbrev Il:=135
abbrev Ap:=86
abbrev Ek:=232
abbrev tz:=109
abbrev nP:=234
abbrev Im:=177
abbrev NG:=50
def p0:ab:=.xH
def p1:ab:=.xO p0
def p2:ab:=.xI p0
def p3:ab:=.xO p1
def p4:ab:=.xI p1
def p5:ab:=.xO p2
def p6:ab:=.xI p2
def p7:ab:=.xO p3
def p8:ab:=.xI p3
def p9:ab:=.xO p4
def aO:ab:=.xI p4
def aR:ab:=.xO p5
def aY:ab:=.xI p5
def aX:ab:=.xO p6
def bi:ab:=.xI p6
def bk:ab:=.xO p7
def bo:ab:=.xI p7
def aZ:ab:=.xO p8
def br:ab:=.xI p8
def bJ:ab:=.xO p9
def bN:ab:=.xI p9
def bR:ab:=.xO aO
def bO:ab:=.xI aO
def bL:ab:=.xO aR
def bK:ab:=.xI aR
def bT:ab:=.xO aY
def ch:ab:=.xI aY
def bY:ab:=.xO aX
def ct:ab:=.xI aX
def cz:ab:=.xO bi
def b7:ab:=.xI bi
def cW:ab:=.xO bk
def cV:ab:=.xI bk
def cH:ab:=.xO bo
def di:ab:=.xI bo
def cD:ab:=.xO aZ
def bZ:ab:=.xI aZ
def dl:ab:=.xO br
def dh:ab:=.xI br
def du:ab:=.xO bJ
def dw:ab:=.xI bJ
def dg:ab:=.xO bN
def da:ab:=.xI bN
def dj:ab:=.xO bR
def dq:ab:=.xI bR
def dA:ab:=.xO bO
def dt:ab:=.xI bO
def cJ:ab:=.xO bL
def dB:ab:=.xI bL
def dH:ab:=.xO bK
def dX:ab:=.xI bK
def dM:ab:=.xO bT
def dk:ab:=.xI bT
def cR:ab:=.xO ch
def dY:ab:=.xI ch
def dZ:ab:=.xO bY
def dR:ab:=.xI bY
def eM:ab:=.xO ct
def d9:ab:=.xI ct
def eI:ab:=.xO cz
def eN:ab:=.xI cz
def eg:ab:=.xO b7
def ep:ab:=.xI b7
def fy:ab:=.xO cW
def fS:ab:=.xI cW
def fg:ab:=.xO cV
def eO:ab:=.xI cV
def gp:ab:=.xO cH
def eJ:ab:=.xI cH
def fJ:ab:=.xO di
def fU:ab:=.xI di
def gf:ab:=.xO cD
def fK:ab:=.xI cD
def eR:ab:=.xO bZ
def fV:ab:=.xI bZ
def ff:ab:=.xO dl
def fL:ab:=.xI dl
def fW:ab:=.xO dh
def ie:ab:=.xI dh
def fM:ab:=.xO du
def iq:ab:=.xI du
def iB:ab:=.xO dw
def ir:ab:=.xI dw
def iC:ab:=.xO dg
def iU:ab:=.xI dg
def jD:ab:=.xO da
def jk:ab:=.xI da
def kl:ab:=.xO dj
def jw:ab:=.xI dj
def lE:ab:=.xO dq
def mR:ab:=.xI dq
def l8:ab:=.xO dA
def lh:ab:=.xI dA
def jV:ab:=.xO dt
def kA:ab:=.xI dt
def jW:ab:=.xO cJ
def nQ:ab:=.xI cJ
def mS:ab:=.xO dB
def li:ab:=.xI dB
def mT:ab:=.xO dH
def nR:ab:=.xI dH
def oV:ab:=.xO dX
def oW:ab:=.xI dX
def oX:ab:=.xO dM
def lj:ab:=.xI dM
def km:ab:=.xO dk
def mF:ab:=.xI dk
def mU:ab:=.xO cR
def lF:ab:=.xI cR
def pz:ab:=.xO dY
def lm:ab:=.xI dY
def nS:ab:=.xO dZ
def oY:ab:=.xI dZ
def lG:ab:=.xO dR
def lH:ab:=.xI dR
def kP:ab:=.xO eM
def l9:ab:=.xI eM
def nT:ab:=.xO d9
def lI:ab:=.xI d9
def nU:ab:=.xO eI
def nV:ab:=.xI eI
def lJ:ab:=.xO eN
def nW:ab:=.xI eN
def pA:ab:=.xO eg
def qV:ab:=.xI eg
def nX:ab:=.xO ep
def kB:ab:=.xI ep
def qW:ab:=.xO fy
def qf:ab:=.xI fy
def oZ:ab:=.xO fS
def qh:ab:=.xI fS
def pB:ab:=.xO fg
def tA:ab:=.xI fg
def qX:ab:=.xO eO
def mV:ab:=.xI eO
def sc:ab:=.xO gp
def uV:ab:=.xI gp
def uW:ab:=.xO eJ
def nY:ab:=.xI eJ
def wC:ab:=.xO fJ
def wD:ab:=.xI fJ
def tC:ab:=.xO fU
def sd:ab:=.xI fU
def tD:ab:=.xO gf
def wE:ab:=.xI gf
def tE:ab:=.xO fK
def Aq:ab:=.xI fK
def yl:ab:=.xO eR
def Cc:ab:=.xI eR
def pC:ab:=.xO fV
def yn:ab:=.xI fV
def yo:ab:=.xO ff
def Ar:ab:=.xI ff
def As:ab:=.xO fL
def yp:ab:=.xI fL
def Au:ab:=.xO fW
def Av:ab:=.xI fW
def Aw:ab:=.xO ie
def Cd:ab:=.xI ie
def El:ab:=.xO fM
def Io:ab:=.xI fM
def Ip:ab:=.xO iq
def Ce:ab:=.xI iq
def wF:ab:=.xO iB
def wG:ab:=.xI iB
def Em:ab:=.xO ir
def Cf:ab:=.xI ir
def En:ab:=.xO iC
def Iq:ab:=.xI iC
def yq:ab:=.xO iU
def Eo:ab:=.xI iU
def Ep:ab:=.xO jD
def yr:ab:=.xI jD
def Er:ab:=.xO jk
def Es:ab:=.xI jk
def Ir:ab:=.xO kl
def Et:ab:=.xI kl
def Eu:ab:=.xO jw
def qY:ab:=.xI jw
def Ev:ab:=.xO lE
def Cg:ab:=.xI lE
def NH:ab:=.xO mR
def Ci:ab:=.xI mR
def NI:ab:=.xO l8
def Is:ab:=.xI l8
def It:ab:=.xO lh
def NJ:ab:=.xI lh
def qZ:ab:=.xO jV
def NK:ab:=.xI jV
def NL:ab:=.xO kA
def Ew:ab:=.xI kA
def NM:ab:=.xO jW
def NN:ab:=.xI jW
def NO:ab:=.xO nQ
def NP:ab:=.xI nQ
def NQ:ab:=.xO mS
def Iu:ab:=.xI mS
def NR:ab:=.xO li
def NS:ab:=.xI li
def ahD:ab:=.xO mT
def ahE:ab:=.xI mT
def ahF:ab:=.xO nR
def ahG:ab:=.xI nR
def ahH:ab:=.xO oV
def ahI:ab:=.xI oV
def ahJ:ab:=.xO oW
def ahK:ab:=.xI oW
def ahL:ab:=.xO oX
def ahM:ab:=.xI oX
def ahN:ab:=.xO lj
def ahO:ab:=.xI lj
def ahP:ab:=.xO km
def ahQ:ab:=.xI km
def ahR:ab:=.xO mF
def ahS:ab:=.xI mF
def ahT:ab:=.xO mU
def ahU:ab:=.xI mU
def ahV:ab:=.xO lF
def ahW:ab:=.xI lF
def ahX:ab:=.xO pz
def ahY:ab:=.xI pz
def ahZ:ab:=.xO lm
def ah0:ab:=.xI lm
def ah1:ab:=.xO nS
def ah2:ab:=.xI nS
def ah3:ab:=.xO oY
def ah4:ab:=.xI oY
def ah5:ab:=.xO lG
def ah6:ab:=.xI lG
def ah7:ab:=.xO lH
def ah8:ab:=.xI lH
def ah9:ab:=.xO kP
def aia:ab:=.xI kP
def aib:ab:=.xO l9
def aic:ab:=.xI l9
def aid:ab:=.xO nT
def aie:ab:=.xI nT
def aif:ab:=.xO lI
def aig:ab:=.xI lI
def aih:ab:=.xO nU
def aii:ab:=.xI nU
def aij:ab:=.xO nV
def aik:ab:=.xI nV
def ail:ab:=.xO lJ
def aim:ab:=.xI lJ
def ain:ab:=.xO nW
def aio:ab:=.xI nW
def aip:ab:=.xO pA
def aiq:ab:=.xI pA
def air:ab:=.xO qV
def ais:ab:=.xI qV
def ait:ab:=.xO nX
def aiu:ab:=.xI nX
def aiv:ab:=.xO kB
def aiw:ab:=.xI kB
def aix:ab:=.xO qW
def aiy:ab:=.xI qW
def aiz:ab:=.xO qf
def aiA:ab:=.xI qf
def aiB:ab:=.xO oZ
def aiC:ab:=.xI oZ
def aiD:ab:=.xO qh
def aiE:ab:=.xI qh
def aiF:ab:=.xO pB
def aiG:ab:=.xI pB
def aiH:ab:=.xO tA
def aiI:ab:=.xI tA
def aiJ:ab:=.xO qX
def aiK:ab:=.xI qX
def aiL:ab:=.xO mV
def aiM:ab:=.xI mV
def aiN:ab:=.xO sc
def aiO:ab:=.xI sc
def aiP:ab:=.xO uV
def aiQ:ab:=.xI uV
def aiR:ab:=.xO uW
def aiS:ab:=.xI uW
def aiT:ab:=.xO nY
def aiU:ab:=.xI nY
def aiV:ab:=.xO wC
def aiW:ab:=.xI wC
def aiX:ab:=.xO wD
def aiY:ab:=.xI wD
def aiZ:ab:=.xO tC
def ai0:ab:=.xI tC
def ai1:ab:=.xO sd
def ai2:ab:=.xI sd
def ai3:ab:=.xO tD
def ai4:ab:=.xI tD
def ai5:ab:=.xO wE
def ai6:ab:=.xI wE
def ai7:ab:=.xO tE
def ai8:ab:=.xI tE
def ai9:ab:=.xO Aq
def aja:ab:=.xI Aq
def ajb:ab:=.xO yl
def ajc:ab:=.xI yl
def ajd:ab:=.xO Cc
def aje:ab:=.xI Cc
def ajf:ab:=.xO pC
def ajg:ab:=.xI pC
def ajh:ab:=.xO yn
def aji:ab:=.xI yn
def ajj:ab:=.xO yo
def ajk:ab:=.xI yo
def ajl:ab:=.xO Ar
def ajm:ab:=.xI Ar
def ajn:ab:=.xO As
def ajo:ab:=.xI As
def ajp:ab:=.xO yp
def ajq:ab:=.xI yp
def ajr:ab:=.xO Au
def ajs:ab:=.xI Au
def ajt:ab:=.xO Av
def aju:ab:=.xI Av
def ajv:ab:=.xO Aw
def ajw:ab:=.xI Aw
def ajx:ab:=.xO Cd
def ajy:ab:=.xI Cd
def ajz:ab:=.xO El
def ajA:ab:=.xI El
abbrev aop:=6
abbrev We:=9
abbrev NT:=10
abbrev Wf:=11
abbrev aoq:=12
abbrev Wg:=13
abbrev aor:=17
abbrev Wh:=18
abbrev Wi:=21
abbrev Wj:=22
abbrev Wk:=23
abbrev Wl:=26
abbrev aos:=27
abbrev Wm:=28
abbrev Wn:=29
abbrev Wo:=33
abbrev NU:=34
abbrev Wp:=35
abbrev aot:=36
abbrev Wq:=37
abbrev Ws:=39
abbrev Wt:=40
abbrev Wu:=41
abbrev Wv:=42
abbrev Ww:=45
abbrev aou:=49
abbrev Wx:=50
abbrev Wy:=52
abbrev Wz:=53
abbrev WA:=56
abbrev WB:=57
abbrev WC:=59
abbrev WD:=60
abbrev WE:=61
abbrev WF:=68
abbrev WG:=73
abbrev WH:=74
abbrev WI:=75
abbrev aov:=76
abbrev WJ:=77
abbrev NV:=78
abbrev WK:=82
abbrev WL:=83
abbrev WM:=84
abbrev WN:=85
abbrev Iv:=88
abbrev WO:=89
abbrev WP:=91
abbrev WQ:=92
abbrev WR:=96
abbrev WS:=113
abbrev WT:=114
abbrev WU:=115
abbrev WV:=116
abbrev Ex:=117
abbrev WW:=118
abbrev WX:=119
abbrev WY:=121
abbrev WZ:=122
abbrev W0:=124
abbrev W1:=125
abbrev W2:=126
abbrev W3:=127
abbrev W4:=128
abbrev W5:=129
abbrev W6:=131
abbrev Ey:=132
abbrev W7:=133
abbrev W8:=140
abbrev W9:=141
abbrev Xa:=142
abbrev Xb:=143
abbrev Xd:=145
abbrev Xe:=146
abbrev Xg:=147
abbrev Xh:=149
abbrev Xi:=151
abbrev Xj:=171
abbrev Xk:=172
abbrev NW:=173
abbrev Xl:=174
abbrev Xm:=175
abbrev Xn:=176
abbrev Xp:=177
abbrev Iw:=178
abbrev Xq:=180
abbrev Xr:=181
abbrev Xs:=182
abbrev NX:=191
abbrev NY:=192
abbrev NZ:=193
abbrev Ix:=194
abbrev Xt:=195
abbrev Iy:=196
abbrev Xu:=197
abbrev Xv:=198
abbrev Iz:=199
abbrev N0:=200
abbrev Xw:=201
abbrev Xx:=202
abbrev Xy:=203
abbrev Xz:=204
abbrev Ez:=205
abbrev XA:=206
abbrev EA:=207
abbrev EB:=208
abbrev XB:=209
abbrev XC:=214
abbrev XD:=215
abbrev XE:=219
abbrev IA:=220
abbrev N1:=221
abbrev XF:=222
abbrev XG:=223
abbrev XH:=226
abbrev XI:=227
abbrev XJ:=228
abbrev XK:=229
abbrev XL:=230
abbrev XM:=232
abbrev XN:=233
abbrev N3:=234
abbrev XO:=235
abbrev XP:=236
abbrev XQ:=238
abbrev XR:=239
abbrev N4:=240
abbrev XS:=241
abbrev XT:=242
abbrev XU:=243
abbrev IB:=244
abbrev XV:=245
abbrev XW:=247
abbrev N5:=254
abbrev N6:=38
namespace Y
abbrev m(d a:ab):=O d (.bg (T a))
abbrev l(d a:ab):=O d (.aW (T a))
abbrev a(d:ab)(n:Nat)(a:ab):=O d (.j6 n (T a))
abbrev x(d:ab)(n:Nat)(a b:ab):=O d (.dG n (T a) (T b))
abbrev s(n:Nat)(a b:ab):=N (.store n (T a) (T b))
abbrev k(d:ab)(n:Nat):=O d (.bg (I 3 n))
abbrev z(d a:ab):=O d (.j7 (T a))
abbrev e(d a:ab)(n:Nat):=O d (.arith .eql 3 (T a) (I 3 n))
abbrev eu(d a:ab)(n:Nat):=O d (.arith .eql 2 (T a) (I 2 n))
abbrev f(d:ab):=O d (.bg (C (.bool false)))
abbrev kC(d:ab):=O d (.bg (C (.bool true)))
abbrev ld(d:ab)(n:Nat)(a:ab):=O d (.gw n (T a))
abbrev gm(d a g:ab)(b:Bool):=G d (.bg (T a)) g b
abbrev gl(d a g:ab)(b:Bool):=G d (.aW (T a)) g b
abbrev ga(d:ab)(n:Nat)(a g:ab)(b:Bool):=G d (.j6 n (T a)) g b
abbrev u(d a b:ab):=O d (.arith .lss 3 (T a) (T b))
abbrev pl(d a:ab)(n:Nat):=O d (.arith .add 3 (T a) (I 3 n))
abbrev b(d:ab)(n:Nat)(a:ab):=O d (.box n (T a))
abbrev o(d a b:ab):=O d (.pick (T a) (C (.bool true)) (T b))
abbrev y(d a b:ab):=O d (.pick (T a) (T b) (C (.bool false)))
abbrev no(d a:ab):=O d (.unary .not (T a))
abbrev c(d:ab)(n:Nat)(l:List aJ):=O d (.call (C (.func n [] [])) l)
abbrev ex(d a:ab)(n:Nat):=O d (.extract (T a) n)
abbrev nc(d a:ab):=O d (.nilCheck (T a))
abbrev nl(d:ab):=O d (.bg (C .aS))
abbrev cT:=C (.bool true)
abbrev cF:=C (.bool false)
abbrev cN:=C .aS
abbrev r:=bt.region
abbrev S:=bt.seq
abbrev H:=bt.cond
abbrev Bl:=bt.block
abbrev Lp:=bt.loop
abbrev X:=bt.exit
abbrev q(l:List be)(x:bt):bt:=.seq (.region l) x
abbrev t1:=T p1
abbrev t2:=T p2
abbrev t3:=T p3
abbrev t4:=T p4
abbrev t5:=T p5
abbrev t6:=T p6
abbrev t7:=T p7
abbrev t8:=T p8
abbrev t9:=T p9
abbrev fA:=T aO
abbrev kD:=T aR
abbrev kn:=T aY
abbrev kQ:=T aX
abbrev jX:=T bi
abbrev ma:=T bk
abbrev jE:=T bo
abbrev jF:=T aZ
abbrev jG:=T br
abbrev mW:=T bJ
abbrev kR:=T bN
abbrev qi:=T bR
abbrev mG:=T bO
abbrev mX:=T bL
abbrev qj:=T bK
abbrev tF:=T bT
abbrev o0:=T ch
abbrev qk:=T bY
abbrev So:=T ct
abbrev nZ:=T cz
abbrev yt:=T b7
abbrev n6:=T cW
abbrev tG:=T cV
abbrev rc:=T cH
abbrev n8:=T di
abbrev se:=T cD
abbrev yu:=T bZ
abbrev n9:=T dl
abbrev uX:=T dh
abbrev sf:=T du
abbrev tH:=T dw
abbrev pD:=T dg
abbrev Ax:=T da
abbrev uY:=T dj
abbrev ql:=T dq
abbrev uZ:=T dA
abbrev t46:=T dt
abbrev tJ:=T cJ
abbrev si:=T dB
abbrev u6:=T dH
abbrev yw:=T dX
abbrev t51:=T dM
abbrev yz:=T dk
abbrev W':=T cR
abbrev tL:=T dY
abbrev yA:=T dZ
abbrev Ay:=T dR
abbrev u9:=T eM
abbrev rf:=T d9
abbrev wH:=T eI
abbrev vc:=T eN
abbrev Az:=T eg
abbrev AA:=T ep
abbrev AB:=T fy
abbrev yB:=T fS
abbrev Cj:=T fg
abbrev Ck:=T eO
abbrev AC:=T gp
abbrev AD:=T eJ
abbrev AF:=T fJ
abbrev tP:=T fU
abbrev vf:=T gf
abbrev wI:=T fK
abbrev AG:=T eR
abbrev AH:=T fV
abbrev AI:=T ff
abbrev IC:=T fL
abbrev AJ:=T fW
abbrev AL:=T ie
abbrev EC:=T fM
abbrev Cl:=T iq
abbrev AM:=T iB
abbrev ID:=T ir
abbrev N7:=T iC
abbrev XX:=T iU
abbrev ED:=T jD
abbrev IE:=T jk
abbrev t87:=T kl
abbrev EE:=T jw
abbrev N8:=T lE
abbrev EF:=T mR
abbrev EG:=T l8
abbrev N9:=T lh
abbrev Oa:=T jV
abbrev XY:=T kA
abbrev Ob:=T jW
abbrev IF:=T nQ
abbrev X8:=T li
abbrev Oc:=T mT
abbrev Od:=T nR
abbrev EH:=T oV
abbrev IG:=T oW
abbrev IH:=T oX
abbrev II:=T lj
abbrev X9:=T mF
abbrev X':=T mU
abbrev Ya:=T lF
abbrev Yb:=T pz
abbrev IJ:=T lm
abbrev IK:=T nS
abbrev Oe:=T oY
abbrev Of:=T lG
abbrev ajC:=T lH
abbrev Og:=T kP
abbrev Oh:=T l9
abbrev Yc:=T nT
abbrev Yd:=T lI
abbrev Oi:=T nU
abbrev Ye:=T nV
abbrev Oj:=T lJ
abbrev IL:=T nW
abbrev ajD:=T pA
abbrev IM:=T qV
abbrev Yf:=T nX
abbrev Ol:=T kB
abbrev Om:=T qW
abbrev On:=T qf
abbrev IN:=T oZ
abbrev EI:=T qh
abbrev apt:=T pB
abbrev IP:=T tA
abbrev apu:=T qX
abbrev Oo:=T mV
abbrev Oq:=T sc
abbrev EJ:=T uV
abbrev Ot:=T uW
abbrev IQ:=T nY
abbrev Yg:=T wC
abbrev Yh:=T wD
abbrev ajE:=T tC
abbrev Yi:=T sd
abbrev Yj:=T tD
abbrev Yk:=T tE
abbrev ajF:=T Aq
abbrev ajG:=T yl
abbrev ajH:=T pC
abbrev ajI:=T yn
abbrev ajJ:=T yo
abbrev Yl:=T Ar
abbrev ajK:=T yp
abbrev ajL:=T Au
abbrev Ym:=T Aw
abbrev apv:=T Cd
abbrev aow:=T El
abbrev apw:=T Ip
abbrev ajM:=T Ce
abbrev aox:=T wF
abbrev ajN:=T Em
abbrev ajO:=T Cf
abbrev Yn:=T En
abbrev Ou:=T yq
abbrev Yo:=T Eo
abbrev Yp:=T Ep
abbrev ajP:=T yr
abbrev ajQ:=T Er
abbrev ajR:=T Es
abbrev Yq:=T Ir
abbrev ajS:=T qY
abbrev ajT:=T Ev
abbrev ajU:=T Cg
abbrev apx:=T Ci
abbrev al3:=T NI
abbrev ajV:=T Is
abbrev ajW:=T It
abbrev ajX:=T qZ
abbrev Yr:=T NK
abbrev Ys:=T NL
abbrev ajY:=T Ew
abbrev Yt:=T NM
abbrev Yu:=T NN
abbrev Yv:=T NO
abbrev Yw:=T NP
abbrev Yx:=T NQ
abbrev ajZ:=T Iu
abbrev aoy:=T NR
abbrev Yy:=T NS
abbrev aoz:=T ahF
abbrev aoA:=T ahH
abbrev apy:=T ahK
abbrev apz:=T ahL
abbrev apA:=T ahM
abbrev aoB:=T ahO
abbrev apB:=T ahS
abbrev apC:=T ahT
abbrev apD:=T ahW
abbrev aoC:=T ahX
abbrev apE:=T ahY
abbrev aoD:=T ah1
abbrev aoE:=T ah3
abbrev apF:=T ah4
abbrev apG:=T aib
abbrev apH:=T aif
abbrev apI:=T aig
abbrev apJ:=T aii
abbrev apK:=T aim
abbrev aoF:=T air
abbrev aoG:=T aiu
abbrev aoH:=T aiy
abbrev aoI:=T aiA
abbrev apL:=T aiB
abbrev apM:=T aiF
abbrev apN:=T aiG
abbrev aoJ:=T aiI
abbrev aoK:=T aiK
abbrev aoL:=T aiP
abbrev aoM:=T aiU
abbrev aoN:=T ai0
abbrev apO:=T ai3
abbrev apP:=T ai4
abbrev aoO:=T ai6
abbrev apQ:=T ai7
abbrev aoP:=T ai8
abbrev apR:=T ajc
abbrev apS:=T ajd
abbrev apT:=T aje
abbrev apU:=T ajg
abbrev apV:=T aji
abbrev apW:=T ajj
abbrev apX:=T ajk
abbrev apY:=T ajm
abbrev apZ:=T ajn
abbrev aoQ:=T ajp
abbrev aoR:=T ajq
abbrev aoS:=T ajr
abbrev aoT:=T aju
abbrev aoU:=T ajv
abbrev i0:=I 3 0
abbrev i1:=I 3 1
abbrev i2:=I 3 2
abbrev i3:=I 3 3
abbrev i4:=I 3 4
abbrev v0:=Go.am.i 3 0
abbrev K0(a:ab):be:=O a (.alloc 56 [.aS,.aS,(i 4 0),.aS,(.str []),.aS,.aS])
abbrev K1(a:ab)(b:ab)(c:ab):be:=O a (.append 3 8 1 [v0] false (T b) (T c))
abbrev K2(b:ab)(a:Nat)(c:ab)(d:Nat):be:=O b (.arith .eql a (T c) (I a d))
abbrev K3(a:ab)(b:ab)(c:ab):be:=gm a b c false
abbrev K4(a:ab)(b:ab)(c:ab):be:=gl a b c false
abbrev K5(a:ab):be:=O a (.buildSlice 3 0 [v0] [])
abbrev K6(a:ab)(b:ab):be:=O a (.buildSlice 3 1 [v0] [(0,1,(T b))])
abbrev K7(a:ab)(b:ab)(c:ab):be:=gm a b c true
abbrev K8(a:ab)(b:Nat)(c:ab)(d:ab):be:=ga a b c d false
abbrev K9(a:ab)(b:Nat)(c:ab)(d:ab)(e:ab):be:=G a (.dG b (T c) (T d)) e false
abbrev qp(a:ab)(b:ab)(c:ab):be:=G a (.j7 (T b)) c true
abbrev d8(a:ab)(b:ab)(c:ab):be:=gl a b c true
abbrev og(a:ab)(b:ab):be:=O a (.arith .sub 3 (T b) i1)
abbrev pa(a:ab)(b:ab)(c:ab):be:=G a (.j7 (T b)) c false
abbrev mc(a:ab)(b:ab)(c:ab):be:=G a (.unary .not (T b)) c false
abbrev oh(a:ab)(b:Nat)(c:ab)(d:ab)(e:ab):be:=G a (.call (C (.func b [] [])) [(T c),(T d)]) e false
abbrev EK(a:ab)(b:ab)(c:ab):be:=O a (.build [v0,.aS] [(0,1,(T b)),(1,1,(T c))])
abbrev sj(a:ab)(b:Nat):be:=O a (.alloc b [.aS])
abbrev AN(a:ab)(b:Nat)(c:ab)(d:ab):be:=ga a b c d true
abbrev ln(a:ab):be:=O a (.alloc 54 [(i 4 0),.aS,(.str []),.aS,.aS])
abbrev md(a:ab)(b:ab)(c:ab)(d:ab):be:=G a (.pick (T b) (T c) cF) d false
abbrev vh(a:ab):be:=O a (.alloc 64 [v0,.aS])
abbrev qq(a:ab):be:=N (.store 1 (T a) cT)
abbrev EL(a:ab)(b:Nat)(c:ab)(d:ab)(e:ab):be:=G a (.dG b (T c) (T d)) e true
abbrev Cm(a:ab)(b:ab)(c:ab)(d:List be):List be:=m a b::pl c a 1::m b c::d
abbrev pE(b:ab)(e:Nat)(f:ab)(c:ab)(d:ab)(g:ab)(h:ab)(i:Nat)(j:List be):List be:=a b e f::l c b::m d g::x h i c d::j
abbrev vi(a:ab)(c:Nat)(d:ab)(b:ab)(e:ab)(f:List be):List be:=AN a c d b::d8 e a b::f
abbrev wJ(a:ab)(c:Nat)(d:ab)(b:ab)(e:ab)(f:List be):List be:=K8 a c d b::K4 e a b::f
end Y
open Y
def aoV:bt:=(q [b p1 24 p0,f p2] (S (q [ld bK 4 p1,c bT 26 [qj],no ch bT] (H o0 (q [c bY 10 [],m p2 bY] .ret) .skip)) (q [ld cz 4 p1,c b7 11 [nZ],c cW 21 [yt],m ct cW,ex cV ct 0,ex cH ct 1,m p3 cV,m p4 cH] (q [ld cD 4 p1,c bZ 11 [se],c dl 17 [yu],m di dl,ex dh di 0,ex du di 1,m p5 dh,m p6 du] (q [ld dg 4 p1,c da 11 [pD],c dj 18 [Ax],m dw dj,ex dq dw 0,ex dA dw 1,m p7 dq,m p8 dA] (S (q (m dt p4::O cJ (.arith .neq 3 t46 i0)::m dB cJ::K3 dH p6 dB::G dX (.arith .neq 3 u6 i0) dB false::o dM dB dX::m dk dM::K3 cR p8 dk::G dY (.arith .neq 3 W' i0) dk false::o dZ dk dY::m dR dZ::K3 eM p3 dR::pa d9 eM dR::wJ eI 2 p1 dR eN (G eg (.arith .neq 3 rf vc) dR false::o ep dR eg::m fy ep::K3 fS p7 fy::pa fg fS fy::wJ eO 2 p1 fy gp [G eJ (.arith .neq 3 Cj AC) fy false,o fJ fy eJ,m fU fJ,G gf (.gw 4 t1) fU false,G fK (.call (C (.func 11 [] [])) [vf]) fU false,G eR (.buildSlice 3 0 [v0] []) fU false,K3 fV p3 fU,G ff (.append 3 8 1 [v0] false AG AH) fU false,oh fL 22 fK ff fU,G fW (.arith .neq 3 IC i0) fU false,o ie fU fW])) (H AL (q [f p2] .ret) .skip)) (q [k p9 0] (S (q [k aO 0] (Bl 0 (Lp (S (q [m fM aO,m iq p3,z iB iq,u ir fM iB] (H ID .skip (X 0))) (S (Bl 1 (q [m jD p9,m jk p3,m kl aO,x jw 1 jk kl,l lE jw,pl mR lE 1,O l8 (.qD true [ED,EF]),m p9 l8] (q [k aR 0] (Bl 2 (Lp (S (q [m lh aR,m jV p7,m kA aO,x jW 1 jV kA,l nQ jW,z mS nQ,u li lh mS] (H X8 .skip (X 2))) (S (Bl 3 (q [m oV p7,m oW aO,x oX 1 oV oW,l lj oX,m km aR,x mF 1 lj km,l mU mF,m aY mU] (q [m lF aY,O pz (.arith .lss 3 Ya i0),m lm pz,K3 nS aY lm,K3 oY p3 lm,pa lG oY lm,G lH (.arith .geq 3 IK Of) lm false,o kP lm lH,m l9 kP,K3 nT aY l9,K3 lI aO l9,G nU (.arith .eql 3 Yc Yd) l9 false,o nV l9 nU,m lJ nV,K3 nW p3 lJ,K3 pA aY lJ,K9 qV 1 nW pA lJ,K4 nX qV lJ,K3 kB p3 lJ,K3 qW aO lJ,K9 qf 1 kB qW lJ,K4 oZ qf lJ,G qh (.arith .eql 3 Yf IN) lJ false,o pB lJ qh,m tA pB,K3 qX p7 tA,K3 mV aY tA,K9 sc 1 qX mV tA,K4 uV sc tA,K3 uW aO tA,oh nY 27 uV uW tA,mc wC nY tA,o wD tA wC] (H Yh (q [f p2] .ret) .skip)))) (r (Cm mT aR nR []))))))))) (r (Cm iC aO iU []))))))) (q [k aX 0] (S (q [k bi 0] (Bl 4 (Lp (S (q [m tC bi,a sd 3 p1,l tD sd,z wE tD,u tE tC wE] (H Yk .skip (X 4))) (S (Bl 5 (q [ld pC 4 p1,c yn 11 [ajH],m yo bi,c Ar 12 [ajI,ajJ],m Cc Ar,ex As Cc 0,ex yp Cc 1,m bk As,m bo yp] (S (q (m Au bo::O Av (.arith .neq 3 ajL i0)::m Aw Av::K3 Cd bk Aw::pa El Cd Aw::G Io (.arith .gtr 3 aow i0) Aw false::K3 Ip Io Aw::K7 Ce bk Ip::qp wF Ce Ip::vi wG 3 p1 Ip Em (K7 Cf bi Ip::EL En 7 Em Cf Ip::vi Iq 1 En Ip yq [qp Eo yq Ip,G Ep (.arith .add 3 Yo i1) Ip true,G yr (.arith .neq 3 aox Yp) Ip true,md Er Ip yr Aw,o Es Aw Er])) (H ajR (q [f p2] .ret) .skip)) (q [k aZ 0] (Bl 6 (Lp (S (q [m Ir aZ,m Et bk,z Eu Et,u qY Ir Eu] (H ajS .skip (X 6))) (S (Bl 7 (q [K5 NH,m br NH] (S (q [m Ci aZ,e NI Ci 0] (H al3 (r (m Is br::pE It 3 p1 NJ qZ bi NK 7 [a NL 0 NK,l Ew NL,K1 NM Is Ew,m br NM])) .skip)) (S (q [k bJ 0] (Bl 8 (Lp (S (q [m NN bJ,a NO 1 p1,l NP NO,u NQ NN NP,m Iu NQ,K7 NR bi Iu,G NS (.arith .eql 3 aoy i0) Iu true,y ahD Iu NS,m ahE ahD,K7 ahF aZ ahE,G ahG (.arith .eql 3 aoz i0) ahE true,y ahH ahE ahG] (H aoA .skip (X 8))) (S (Bl 9 (r [m ahK br,m ahL bJ,K6 ahM ahL,K1 ahN ahK ahM,m br ahN])) (r (Cm ahI bJ ahJ []))))))) (S (q (m ahO aZ::O ahP (.arith .gtr 3 aoB i0)::m ahQ ahP::vi ahR 3 p1 ahQ ahS (K7 ahT bi ahQ::EL ahU 7 ahS ahT ahQ::vi ahV 1 ahU ahQ ahW (K7 ahX aZ ahQ::G ahY (.arith .sub 3 aoC i1) ahQ true::EL ahZ 6 ahW ahY ahQ::vi ah0 1 ahZ ahQ ah1 [G ah2 (.arith .geq 3 aoD i0) ahQ true,y ah3 ahQ ah2]))) (H aoE (r (m ah4 br::pE ah5 3 p1 ah6 ah7 bi ah8 7 [a ah9 1 ah8,l aia ah9,m aib aZ,og aic aib,x aid 6 aia aic,a aie 1 aid,l aif aie,K6 aig aif,K1 aih ah4 aig,m br aih])) .skip)) (q [K5 aii,m aij bk,m aik aZ,x ail 1 aij aik,l aim ail,K1 ain aii aim,m bN ain] (S (q [k bR 0] (Bl 10 (Lp (S (q [m aio bR,m aip br,z aiq aip,u air aio aiq] (H aoF .skip (X 10))) (S (Bl 11 (q [m aiu bN,m aiv br,m aiw bR,x aix 1 aiv aiw,l aiy aix,c aiz 27 [aoG,aoH],no aiA aiz] (H aoI (r [m aiB bN,m aiC br,m aiD bR,x aiE 1 aiC aiD,l aiF aiE,K6 aiG aiF,K1 aiH aiB aiG,m bN aiH]) .skip))) (r (Cm ais bR ait []))))))) (q [m aiI aX,m aiJ bN,z aiK aiJ,O aiL (.qD true [aoJ,aoK]),m aX aiL] (q [k bO 0] (Bl 12 (Lp (S (q [m aiM bO,m aiN bN,z aiO aiN,u aiP aiM aiO] (H aoL .skip (X 12))) (S (Bl 13 (q [k bL 0] (Bl 14 (Lp (S (q [m aiS bL,m aiT bO,u aiU aiS aiT] (H aoM .skip (X 14))) (S (Bl 15 (q [m aiX bN,m aiY bO,x aiZ 1 aiX aiY,l ai0 aiZ,O ai1 (.arith .lss 3 aoN i0),m ai2 ai1,K3 ai3 bN ai2,K3 ai4 bO ai2,K9 ai5 1 ai3 ai4 ai2,K4 ai6 ai5 ai2,K3 ai7 p7 ai2,pa ai8 ai7 ai2,G ai9 (.arith .geq 3 aoO aoP) ai2 false,o aja ai2 ai9,m ajb aja,K3 ajc p7 ajb,K3 ajd bN ajb,K3 aje bO ajb,K9 ajf 1 ajd aje ajb,K4 ajg ajf ajb,K9 ajh 1 ajc ajg ajb,K4 aji ajh ajb,K3 ajj bN ajb,K3 ajk bL ajb,K9 ajl 1 ajj ajk ajb,K4 ajm ajl ajb,oh ajn 27 aji ajm ajb,mc ajo ajn ajb,o ajp ajb ajo] (H aoQ (q [f p2] .ret) .skip))) (r (Cm aiV bL aiW [])))))))) (r (Cm aiQ bO aiR []))))))))))))))) (r (Cm Ev aZ Cg [])))))))))) (r (Cm Aq bi yl []))))))) (q [m ajq p9,m ajr p5,O ajs (.arith .eql 3 aoR aoS),m ajt ajs,K7 aju p5 ajt,K7 ajv aX ajt,G ajw (.arith .eql 3 aoT aoU) ajt true,y ajx ajt ajw,m ajy ajx,G ajz (.call (C (.func 10 [] [])) []) ajy true,y ajA ajy ajz,m p2 ajA] .ret)))))))))))
def aoW:aG:=.code 321 [.tmp p2] aoV
def YL:aG:=.code 86 [.cell p2 true 7] (q [b p1 56 p0,K0 p2] (q [K5 p7,a p8 0 p1,R p9 (.aW t8) [p7] [],a aR 2 p1,R aY (.gw 5 kD) [p7] [],K0 p3,R aO (.append 3 8 1 [v0] false t7 t9) [p3] [⟨aY,.gw 5 kD,none⟩],O aX (.build [.aS,.aS,(i 4 0),.aS,(.str []),.aS,.aS] [(0,1,fA),(2,5,kn)]),s 7 p3 aX] (S (q [k p4 0] (Bl 0 (Lp (S (q [m bi p4,a bk 1 p1,l bo bk,z aZ bo,u br bi aZ] (H jG .skip (X 0))) (S (Bl 1 (q (pE bR 1 p1 bO bL p4 bK 6 [ld bT 6 bK,O p5 (.alloc 58 [(i 4 0),v0,.aS,v0,v0,(.str [])]),s 6 p5 bT]) (q [K5 ch,a bY 2 p5,l ct bY,K1 cz ch ct,a b7 2 p5,s 1 b7 cz] (r [a cW 1 p3,l cV cW,ld cH 6 p5,O di (.buildSlice 58 1 [(i 4 0),v0,.aS,v0,v0,(.str [])] [(0,6,rc)]),O cD (.append 58 72 6 [(i 4 0),v0,.aS,v0,v0,(.str [])] false tG n8),a bZ 1 p3,s 1 bZ cD])))) (r (Cm bJ p4 bN []))))))) (q [K5 dl,a dh 2 p1,a du 1 dh,R dw (.aW sf) [dl] [],O da (.buildSlice 5 0 [(i 4 0)] []),a dj 2 p1,a dq 3 dj,R dA (.aW ql) [da,dl] [],R dg (.append 3 8 1 [v0] false n9 tH) [da] [⟨dA,.aW ql,none⟩],a cJ 2 p3,a dB 1 cJ,O dt (.append 5 1 1 [(i 4 0)] false Ax uZ),s 1 dB dg,a dH 2 p3,a dX 3 dH,s 1 dX dt,a dM 2 p3,a dk 4 dM,N (.store 1 yz cN)] (S (q [k p6 0] (Bl 2 (Lp (S (q [m cR p6,a dY 2 p1,a dZ 4 dY,l dR dZ,z eM dR,u d9 cR eM] (H rf .skip (X 2))) (S (Bl 3 (r (a eg 2 p3::a ep 4 eg::l fy ep::a fS 2 p1::pE fg 4 fS eO gp p6 eJ 2 [a fJ 0 eJ,l fU fJ,K5 gf,a fK 2 p1,a eR 4 fK,R fV (.aW AG) [gf] [],m ff p6,x fL 2 fV ff,a fW 1 fL,R ie (.aW AJ) [gf] [],R fM (.append 3 8 1 [v0] false vf AL) [] [⟨fU,.aW AF,none⟩,⟨eO,.aW Cj,none⟩,⟨fy,.aW AA,none⟩],EK iq fU fM,O iB (.buildSlice 64 1 [v0,.aS] [(0,2,Cl)]),O ir (.append 64 32 2 [v0,.aS] false AB AM),a iC 2 p3,a iU 4 iC,s 1 iU ir]))) (r (Cm eI p6 eN []))))))) (q [ld jD 7 p3,s 7 p2 jD] .ret))))))
def YP:aG:=.code 81 [.tmp p4] (q [b p2 72 p0,nl p4] (q (l bi p2::nc bk bi::a bo 0 bk::pE aZ 3 bo br bJ p1 bN 7 [ld bR 7 bN,K0 p5,s 7 p5 bR]) (q [l bO p2,m bL p1,c bK 77 [mG,mX],sj p6 42,s 1 p6 bK] (q [O bT (.jK),R ch (.aW t6) [bT] [],a ct 2 p5,a cz 1 ct,R b7 (.aW nZ) [bT] [],O p7 (.alloc 82 [.cY]),R bY (.call (C (.func 78 [] [])) [tF,(J 3 0),o0]) [p7] [⟨b7,.aW nZ,none⟩],R cW (.call (C (.func 78 [] [])) [qk,(J 3 0),yt]) [p7] [],s 1 p7 cW] (S (q [a cV 2 p5,a cH 4 cV,l di cH,z cD di,k bZ 0] (Bl 0 (Lp (q [u dl bZ cD] (S (H n9 .skip (X 0)) (S (Bl 1 (q [x dh 2 di bZ,ld du 2 dh,vh p9,s 2 p9 du] (r [l dw p7,a dg 1 p9,l da dg,c dj 78 [tH,(J 3 0),Ax],s 1 p7 dj]))) (r [pl dq bZ 1,m bZ dq]))))))) (S (q [l dA p2,m dt p1,c cJ 75 [uZ,t46]] (Bl 2 (.rangeFunc tJ [dB,dH] (r [m aO dB]) (Bl 3 (r (l dX p7::l dM p2::nc dk dM::pE cR 6 dk dY dZ aO dR 1 [l eM dR,c d9 78 [yw,(J 3 0),u9],s 1 p7 d9])))))) (q [l eI p7,O eN (.buildSlice 82 1 [.cY] [(0,1,wH)]),sj aR 79,s 1 aR eN] (S (q [a eg 1 p5,l ep eg,c fy 79 [AA]] (Bl 4 (.rangeFunc AB [fS,fg] (r [O aX (.alloc 58 [(i 4 0),v0,.aS,v0,v0,(.str [])]),s 6 aX fg]) (Bl 5 (q [l eO p7,a gp 1 aX,l eJ gp,a fJ 2 aX,l fU fJ,l fK p6,R gf (.call (C (.func 78 [] [])) [Ck,AD,tP]) [] [⟨fK,.aW t6,none⟩],c eR 78 [vf,(J 3 0),wI],s 1 p7 eR] (r [l fV aR,l ff p7,O fL (.buildSlice 82 1 [.cY] [(0,1,AI)]),O fW (.append 82 8 1 [.cY] false AH IC),s 1 aR fW])))))) (q [l ie aR,c fM 80 [AL]] (q [l iq aR,m p4 iq] .ret))))))))))
def YR:aG:=.code 144 [.tmp p2] (q [b p1 24 p0,f p2] (S (q (a aR 0 p1::l aY aR::c aX 82 [kn]::no bi aX::m bk bi::wJ bo 1 p1 bk aZ (wJ br 2 p1 bk bJ (G bN (.call (C (.func 61 [] [])) [jF,i0,mW]) bk false::mc bR bN bk::o bO bk bR::m bL bO::wJ bK 3 p1 bL bT (pa ch bT bL::G bY (.arith .eql 3 o0 i0) bL false::o ct bL bY::m cz ct::wJ b7 3 p1 cz cW (G cV (.dG 7 n6 i0) cz false::wJ cH 0 cV cz di [pa cD di cz,G bZ (.arith .gtr 3 se i0) cz false,o dl cz bZ]))))) (H n9 (q [f p2] .ret) .skip)) (q [a dh 2 p1,l du dh,O dw (.jL 4 1 1 [(.bool false)] sf sf),m p3 dw] (S (q [k p4 0] (Bl 0 (Lp (S (q [m dg p4,a da 1 p1,l dj da,u dq dg dj] (H ql .skip (X 0))) (S (Bl 1 (r [m cJ p3,m dB p4,x dH 1 cJ dB,qq dH])) (r (Cm dA p4 dt []))))))) (S (q [k p5 0] (Bl 2 (Lp (S (q [m dX p5,a dM 3 p1,l dk dM,z cR dk,u dY dX cR] (H tL .skip (X 2))) (S (Bl 3 (q (pE eM 3 p1 d9 eI p5 eN 7 [ld eg 7 eN,K0 p6,s 7 p6 eg]) (q [K5 ep,a fy 0 p6,l fS fy,K1 fg ep fS,m p7 fg] (S (q [k p8 0] (Bl 4 (Lp (S (q [m eO p8,a gp 1 p6,l eJ gp,z fJ eJ,u fU eO fJ] (H tP .skip (X 4))) (S (Bl 5 (S (q (pE eR 1 p6 fV ff p8 fL 6 [ld fW 6 fL,a ie 2 p1,l fM ie,c iq 83 [AJ,EC],no iB iq]) (H AM (q [f p2] .ret) .skip)) (q (pE ir 1 p6 iC iU p8 jD 6 [a jk 1 jD,l kl jk,O jw (.arith .geq 3 t87 i0)]) (H EE (r (m lE p7::pE mR 1 p6 l8 lh p8 jV 6 [a kA 1 jV,l jW kA,K6 nQ jW,K1 mS lE nQ,m p7 mS])) .skip)))) (r (Cm gf p8 fK []))))))) (S (q [k p9 0] (Bl 6 (Lp (S (q [m li p9,m mT p7,z nR mT,u oV li nR] (H EH .skip (X 6))) (S (Bl 7 (S (q [m lj p7,m km p9,x mF 1 lj km,l mU mF,a lF 2 p1,l pz lF,og lm pz,c nS 61 [X',i0,IJ],no oY nS,m lG oY,K3 lH p3 lG,K3 kP p7 lG,K3 l9 p9 lG,K9 nT 1 kP l9 lG,K4 lI nT lG,K9 nU 1 lH lI lG,K4 nV nU lG,o lJ lG nV] (H Oj (q [f p2] .ret) .skip)) (r [m nW p3,m pA p7,m qV p9,x nX 1 pA qV,l kB nX,x qW 1 nW kB,qq qW]))) (r (Cm oW p9 oX []))))))) (q [ld qf 4 p1,a oZ 2 p6,ld qh 5 oZ,c pB 84 [On,EI],no tA pB] (H IP (q [f p2] .ret) .skip))))))) (r (Cm dZ p5 dR []))))))) (S (q [k aO 0] (Bl 8 (Lp (S (q [m qX aO,a mV 2 p1,l sc mV,u uV qX sc] (H EJ .skip (X 8))) (S (Bl 9 (q [m wC p3,m wD aO,x tC 1 wC wD,l sd tC,no tD sd] (H Yj (q [f p2] .ret) .skip))) (r (Cm uW aO nY []))))))) (q [kC p2] .ret)))))))
def YS:aG:=.code 181 [.tmp p2] (q [b p1 24 p0,f p2] (q [ld bi 4 p1,c bk 42 [jX,(J 3 0)],O p3 (.alloc 86 [.aS,.aS,(.bool false)]),s 3 p3 bk] (S (q [a bo 2 p3,l aZ bo] (H jF (q [f p2] .ret) .skip)) (q [ld br 4 p1,ld bN 4 p1,R bJ (.call (C (.func 28 [] [])) [jG]) [] [⟨bN,.gw 4 t1,none⟩],c bR 29 [kR],m p4 bJ,m p5 bR] (S (q [k p6 0] (Bl 0 (Lp (S (q [m bO p6,a bL 3 p1,l bK bL,z bT bK,u ch bO bT] (H o0 .skip (X 0))) (S (Bl 1 (S (q (pE cz 0 p3 b7 cW p6 cV 1 [l cH cV,no di cH]) (H n8 (X 1) .skip)) (q (pE cD 3 p1 bZ dl p6 dh 7 [ld du 7 dh,a dw 1 p3,l dg dw,m da p6,x dj 1 dg da,l dq dj,K0 p7,M (.store 7 t7 sf) [] [⟨dq,.aW uY,none⟩,⟨dg,.aW tH,none⟩],m p8 dq]) (S (q (a dA 2 p7::a dt 0 dA::l cJ dt::K2 dB 4 cJ 68::m dH dB::K7 dX p8 dH::qp dM dX dH::G dk (.arith .eql 3 t51 i0) dH true::K7 cR dk dH::K8 dY 2 p7 cR::wJ dZ 1 dY cR dR (pa eM dR cR::wJ d9 3 p1 cR eI (wJ eN 3 p1 cR eg (K3 ep p8 cR::K3 fy p8 cR::pa fS fy cR::G fg (.arith .sub 3 yB i1) cR false::K9 eO 1 ep fg cR::K4 gp eO cR::G eJ (.arith .quo 3 AC i2) cR false::K9 fJ 7 eg eJ cR::K8 fU 2 fJ cR::wJ gf 4 fU cR fK (G eR (.dG 2 wI i2) cR false::wJ fV 0 eR cR ff (K9 fL 7 eI ff cR::wJ fW 0 fL cR ie (pa fM ie cR::G iq (.arith .neq 3 u9 EC) cR false::G iB (.pick W' cT Cl) dH true::y ir dH iB::m iC ir::K8 iU 2 p7 iC::wJ jD 0 iU iC jk [G kl (.arith .eql 4 IE (I 4 69)) iC false,K3 jw kl iC,K7 lE p8 jw,qp mR lE jw,G l8 (.arith .gtr 3 EF i0) jw true,md lh jw l8 iC,o jV iC lh]))))))) (H Oa (q [f p2] .ret) .skip)) (q [K5 kA,a jW 0 p7,l nQ jW,K1 mS kA nQ,m p9 mS] (q [k aO 0] (Bl 2 (Lp (S (q [m li aO,a mT 1 p7,l nR mT,z oV nR,O oW (.arith .leq 3 X8 EH)] (H IG .skip (X 2))) (S (Bl 3 (q [a km 2 p7,ld mF 5 km,c mU 45 [X9],m aR mU] (S (q [m lF aO,a pz 1 p7,l lm pz,z nS lm,u oY lF nS] (H Oe (r (pE lG 1 p7 lH kP aO l9 6 [a nT 2 l9,l lI nT,m aR lI])) .skip)) (S (q [k aY 0] (Bl 4 (Lp (S (q [m nU aY,m nV aR,z lJ nV,u nW nU lJ] (H IL .skip (X 4))) (S (Bl 5 (q [m nX p5,m kB aR,m qW aY,x qf 1 kB qW,l oZ qf,x qh 1 nX oZ,l pB qh,m aX pB] (q [m tA aX,O qX (.arith .geq 3 IP i0),m mV qX,K7 sc aX mV,K7 uV p6 mV,G uW (.arith .neq 3 Oq EJ) mV true,K7 nY uW mV,K7 wC p4 nY,K7 wD aX nY,EL tC 1 wC wD nY,d8 sd tC nY,K7 tD p6 nY,EL wE 1 sd tD nY,d8 tE wE nY,G Aq (.pick IQ Yk cF) mV true,G yl (.unary .not ajF) mV true,y Cc mV yl,m pC Cc,K7 yn p9 pC,K7 yo aR pC,K7 Ar aY pC,EL As 1 yo Ar pC,d8 yp As pC,G Au (.call (C (.func 60 [] [])) [ajI,ajK]) pC true,G Av (.unary .not ajL) pC true,y Aw pC Av] (H Ym (q [f p2] .ret) .skip)))) (r (Cm pA aY qV []))))))) (q (m Cd aO::a El 1 p7::l Io El::z Ip Io::u Ce Cd Ip::m wF Ce::vi wG 1 p7 wF Em (K7 Cf aO wF::EL En 6 Em Cf wF::vi Iq 1 En wF yq [G Eo (.arith .geq 3 Ou i0) wF true,y Ep wF Eo])) (H Yp (r (m yr p9::pE Er 1 p7 Es Ir aO Et 6 [a Eu 1 Et,l qY Eu,K6 Ev qY,K1 Cg yr Ev,m p9 Cg])) .skip)))))) (r (Cm oX aO lj [])))))))))))) (r (Cm bY p6 ct []))))))) (q [kC p2] .ret))))))
def YT:aG:=.code 95 [.cell p4 true 3] (q [b p2 24 p0,O p4 (.alloc 86 [.aS,.aS,(.bool false)])] (q [a aY 3 p2,l aX aY,z bi aX,m p5 bi] (q [m bk p5,O bo (.jL 4 1 1 [(.bool false)] ma ma),m aZ p5,O br (.jL 135 24 1 [.aS] jF jF),O bJ (.build [.aS,.aS,(.bool false)] [(0,1,jE),(1,1,jG)]),O p6 (.alloc 86 [.aS,.aS,(.bool false)]),s 3 p6 bJ] (S (q [m bN p1,O bR (.arith .neq 3 kR i0)] (H qi (r [a bO 0 p6,l bL bO,O bK (.dG 1 mX i0),qq bK]) .skip)) (S (q [kC p7] (Bl 0 (Lp (S (q [m bT p7] (H tF .skip (X 0))) (Bl 1 (q [f p7] (q [k p8 0] (Bl 2 (Lp (S (q [m ch p8,m bY p5,u ct ch bY] (H So .skip (X 2))) (S (Bl 3 (q [O cW (.buildSlice 139 0 [v0,.aS] []),m p9 cW] (S (q (pE cV 0 p6 cH di p8 cD 1 [l bZ cD]) (H yu (r [ld dl 4 p2,m dh p8,a du 1 p6,l dw du,m dg p8,x da 1 dw dg,l dj da,c dq 85 [n9,uX,uY],m p9 dq]) .skip)) (q [k aO 0] (Bl 4 (Lp (S (q [m dA aO,m dt p9,z cJ dt,u dB dA cJ] (H si .skip (X 4))) (S (Bl 5 (q [m dM p9,m dk aO,x cR 2 dM dk,a dY 0 cR,l dZ dY,m aR dZ] (Bl 6 (q [m eM aR,m d9 p1,O eI (.arith .eql 3 u9 rf),m dR eI] (H Ay .skip (q (pE eg 0 p6 ep fy aR fS 1 [l fg fS,no eO fg,m eN eO]) (H vc (r [a gp 0 p6,l eJ gp,m fJ aR,a fU 1 p6,l gf fU,m fK aR,m eR p9,m fV aO,x ff 2 eR fV,a fL 1 ff,l fW fL,x ie 1 eJ fJ,M (.store 1 AL cT) [] [⟨gf,.aW tP,none⟩],x fM 1 gf fK,s 1 fM fW,kC p7]) (q [a iB 1 p6,l ir iB,m iC aR,x iU 1 ir iC,l jD iU,m jk p9,m kl aO,x jw 2 jk kl,a lE 1 jw,l mR lE,c l8 23 [ED,EF],no lh l8,m iq lh] (H Cl (r [a jV 2 p6,qq jV]) .skip))))))))) (r (Cm dH aO dX [])))))))))) (r (Cm cz p8 b7 []))))))))))))) (q [ld kA 3 p6,s 3 p4 kA] .ret))))))
def Y1:aG:=.code 83 [.tmp p4] (q [b p3 42 p1,k p4 0] (S (q [l aY p3,z aX aY,m bi p0,nc bk bi,a bo 0 bk,a aZ 2 bo,l br aZ,O bJ (.arith .neq 3 kQ jG)] (H mW (q [k p4 2] .ret) .skip)) (q [O bN (.jK),O p5 (.alloc 82 [.cY]),s 1 p5 bN] (S (q [m bR p0,c bO 92 [qi]] (Bl 0 (.rangeFunc mG [bL] (r [m p6 bL]) (Bl 1 (r [l bK p5,m bT p6,N (.jy .int qj tF cT)]))))) (S (q [l ch p3,z bY ch,k ct 0] (Bl 2 (Lp (q [u cz ct bY] (S (H nZ .skip (X 2)) (S (Bl 3 (q [m b7 ct,x cW 1 ch ct,l cV cW,m p7 b7,m p8 cV] (q [l cH p5,m di p7,O cD (.lookup .int (.bool false) false rc n8),m bZ cD,K7 dl p8 bZ,G dh (.call (C (.func 35 [] [])) [i0,(I 3 249),n9]) bZ true,G du (.unary .not uX) bZ true,y dw bZ du,m dg dw,K4 da p5 dg,K3 dj p7 dg,G dq (.lookup .int (.bool false) false Ax uY) dg false,mc dA dq dg,K3 dt dA dg,K7 cJ p8 dt,G dB (.arith .neq 3 tJ (J 3 0)) dt true,md dH dt dB dg,o dX dg dH] (H yw (q [k p4 3] .ret) .skip)))) (r [pl dM ct 1,m ct dM]))))))) (S (q [m dk p0,c cR 53 [yz],z dY cR,k dZ 0] (Bl 4 (Lp (q [u dR dZ dY] (S (H Ay .skip (X 4)) (S (Bl 5 (q [m eM dZ,x d9 1 cR dZ,l eI d9,O p9 (.alloc 3 [v0]),s 1 p9 eM,m aO eI] (q [O eN (.iP 93 [] [t3,t9]),m aR eN] (q [l eg p9,m ep p0,nc fy ep,a fS 0 fy,a fg 1 fS,l eO fg,u gp eg eO,m eJ gp,d8 fJ p3 eJ,d8 fU p9 eJ,EL gf 1 fJ fU eJ,d8 fK gf eJ,d8 eR p9 eJ,G fV (.arith .neq 3 wI AG) eJ true,y ff eJ fV,m fL ff,K3 fW aO fL,K3 fM aR fL,G ie (.call (C (.func 38 [] [])) [AJ]) fL false,oh iq 68 ie fM fL,o iB fL iq] (H AM (q [k p4 12] .ret) .skip))))) (r [pl ir dZ 1,m dZ ir]))))))) (q [k p4 0] .ret)))))))
def Y9:aG:=.code 39 [.cell p4 false 1] (q [b p2 72 p0,sj p4 42] (S (q (l p7 p2::nc p8 p7::pE p9 5 p8 aO aR p1 aY 1 [l aX aY,c bi 120 [kQ]]) (Bl 0 (.rangeFunc jX [bk,bo] (r [O p6 (.alloc 168 [v0,(.bool false)]),s 2 p6 bo]) (Bl 1 (q [a aZ 1 p6,l br aZ] (H jG (q [l bJ p2,nc bN bJ,a bR 6 bN,l bO bR,l bL p2,nc bK bL,a bT 0 bK,a ch 3 bT,l bY ch,a ct 0 p6,l cz ct,x b7 7 bY cz,a cW 2 b7,a cV 4 cW,l cH cV,O di (.dG 2 rc i1),a cD 0 di,l bZ cD,x dl 1 bO bZ,l dh dl,s 1 p4 dh] .ret) .skip)))))) (q [N (.store 1 t4 cN)] .ret)))
def Ze:aG:=.code 199 [.tmp p4] (q [b p2 24 p0,b p3 54 p1,f p4] (q [k p5 0,k p6 0] (S (q [a aY 0 p3,l aX aY] (Bl 0 (q [K2 bk 4 aX 61,m bi bk] (H jX (r [k p6 1]) (S (q [K2 aZ 4 aX 62,m bo aZ] (H jE .skip (q [K2 br 4 aX 63,m bo br] (H jE .skip (r [K2 bJ 4 aX 65,m bo bJ]))))) (H jE (r [k p5 1,k p6 2]) (q [K2 bR 4 aX 66,m bN bR] (H kR (q [a bO 3 p3,l bL bO,z bK bL,m p6 bK] (S (q [k p7 0] (Bl 1 (Lp (S (q [m bT p7,a ch 3 p3,l bY ch,z ct bY,u cz bT ct] (H nZ .skip (X 1))) (S (Bl 2 (q (pE cV 3 p3 cH di p7 cD 1 [l bZ cD,m p8 bZ]) (S (q (m dl p8::O dh (.kX 3 n9)::c du 61 [uX,i1,i3]::no dw du::m dg dw::K3 da p8 dg::G dj (.arith .eql 4 Ax (I 4 3)) dg false::K3 dq dj dg::K7 dA p7 dq::vi dt 3 p3 dq cJ [qp dB cJ dq,G dH (.arith .sub 3 si i1) dq true,G dX (.arith .lss 3 uZ u6) dq true,md dM dq dX dg,o dk dg dM]) (H yz (q [f p4] .ret) .skip)) (r [m cR p5,m dY p8,O dZ (.arith .sub 4 (I 4 3) tL),O dR (.kX 3 yA),O eM (.arith .add 3 W' Ay),m p5 eM])))) (r (Cm b7 p7 cW []))))))) (q [m d9 p6,c eI 61 [rf,i1,i4],no eN eI] (H vc (q [f p4] .ret) .skip)))) (q [K2 ep 4 aX 67,m eg ep] (H Az (r [k p6 3]) (q [K2 fS 4 aX 68,m fy fS] (H AB (r [a fg 1 p3,l eO fg,z gp eO,O eJ (.qD true [i1,AC]),m p5 eJ]) (S (q [K2 fU 4 aX 69,m fJ fU] (H AF .skip (r [K2 gf 4 aX 21,m fJ gf]))) (H AF (r [k p5 1]) (q [K2 eR 4 aX 70,m fK eR] (H wI .skip (q [f p4] .ret))))))))))))))))) (S (q (a fV 1 p3::l ff fV::z fL ff::m fW p5::O ie (.arith .neq 3 IC AJ)::m fM ie::wJ iq 4 p3 fM iB (pa ir iB fM::K3 iC p6 fM::G iU (.arith .neq 3 ID N7) fM false::o jD fM iU::m jk jD::wJ kl 1 p3 jk jw (wJ lE 2 p2 jk mR (oh l8 126 jw mR jk::mc lh l8 jk::o jV jk lh::m kA jV::wJ jW 0 p3 kA nQ (G mS (.arith .neq 4 IF (I 4 66)) kA false::K3 li mS kA::vi mT 3 p3 li nR (qp oV nR li::G oW (.arith .gtr 3 EH i0) li true::md oX li oW kA::o lj kA oX::m km lj::wJ mF 0 p3 km mU (G lF (.arith .eql 4 X' (I 4 63)) km false::wJ pz 2 p3 km lm (G nS (.iE .neq IJ (C (.str []))) km false::G oY (.eq true .bool Ya IK) km false::o lG km oY::m lH lG::wJ kP 2 p3 lH l9 (G nT (.iE .neq Oh (C (.str []))) lH false::K3 lI nT lH::vi nU 2 p3 lI nV [G lJ (.call (C (.func 82 [] [])) [Ye]) lI true,G nW (.unary .not Oj) lI true,md pA lI nW lH,o qV lH pA]))))))))) (H IM (q [f p4] .ret) .skip)) (S (q [k p9 0] (Bl 3 (Lp (S (q [m nX p9,a kB 4 p3,l qW kB,z qf qW,u oZ nX qf] (H IN .skip (X 3))) (S (Bl 4 (q (pE tA 4 p3 qX mV p9 sc 2 [ld uV 2 sc,vh aO,s 2 aO uV]) (S (q (a uW 0 aO::l nY uW::a wC 3 p2::l wD wC::z tC wD::og sd tC::c tD 61 [IQ,i1,Yi]::no wE tD::m tE wE::wJ Aq 1 aO tE yl (wJ Cc 2 p2 tE pC [oh yn 126 yl pC tE,mc yo yn tE,o Ar tE yo])) (H Yl (q [f p4] .ret) .skip)) (q [a As 3 p2,l yp As,a Au 0 aO,l Av Au,x Aw 7 yp Av,a Cd 0 Aw,l El Cd,z Io El,m aR Io] (q (a Ip 0 p3::l Ce Ip::K2 wF 4 Ce 67::m wG wF::vi Em 1 aO wG Cf (qp En Cf wG::G Iq (.arith .gtr 3 Yn i0) wG true::K7 yq Iq wG::K3 Eo p9 yq::G Ep (.arith .eql 3 Yo i2) yq false::K3 yr Ep yq::K7 Er aR yr::G Es (.arith .eql 3 ajQ i0) yr true::md Ir yr Es yq::G Et (.pick Ou cT Yq) wG true::y Eu wG Et::m qY Eu::wJ Ev 0 p3 qY Cg (G NH (.arith .eql 4 ajU (I 4 67)) qY false::K3 Ci NH qY::K7 NI p9 Ci::G Is (.arith .eql 3 al3 i2) Ci true::md It Ci Is qY::mc NJ It qY::K3 qZ NJ qY::K7 NK aR qZ::vi NL 1 aO qZ Ew [qp NM Ew qZ,G NN (.gw 5 t3) qZ true,K7 NO p9 qZ,G' (some NP) (.call (C (.func 129 [] [])) [Yu,Yv]) qZ true [] [⟨Ew,.aW Ys,some (qZ,true)⟩],G NQ (.arith .add 3 Yt Yw) qZ true,G Iu (.arith .neq 3 Yr Yx) qZ true,md NR qZ Iu qY,o NS qY NR]))) (H Yy (q [f p4] .ret) .skip)))))) (r (Cm qh p9 pB []))))))) (q [kC p4] .ret))))))
def Zf:aG:=.code 107 [.tmp p6] (q [b p3 24 p0,nl p6] (q (pE aX 3 p3 bi bk p1 bo 7 [a aZ 2 bo,ld br 5 aZ,O bJ (.buildSlice 139 0 [v0,.aS] []),ln p7,s 5 p7 br,m p8 bJ]) (S (q [a bN 0 p7,l bR bN] (Bl 0 (q [K2 bL 4 bR 67,m bO bL] (H mG (q [K5 bK,m bT p2,K1 ch bK bT,m bY p1,O ct (.arith .mul 3 i2 qk),K6 cz ct,K1 b7 ch cz,m p9 b7] (q [K5 cW,m cV p2,K1 cH cW cV,m di p1,O cD (.arith .mul 3 i2 n8),pl bZ cD 1,K6 dl bZ,K1 dh cH dl,m aO dh] (q [m du p8,a dw 4 p7,l dg dw,O da (.dG 2 pD i0),a dj 0 da,l dq dj,m dA p9,EK dt dq dA,a cJ 4 p7,l dB cJ,O dH (.dG 2 si i1),a dX 0 dH,l dM dX,m dk aO,EK cR dM dk,O dY (.buildSlice 139 2 [v0,.aS] [(0,2,t46),(2,2,W')]),O dZ (.append 139 32 2 [v0,.aS] false sf tL),m p6 dZ] .ret))) (q [K2 eM 4 bR 68,m dR eM] (H Ay (S (q [m d9 p2,z eI d9,e eN eI 0] (H vc (q [m eg p8,m p6 eg] .ret) .skip)) (q [m ep p2,m fy p2,z fS fy,og fg fS,x eO 1 ep fg,l gp eO,m aR gp] (q [m eJ p8,a fJ 3 p3,l fU fJ,m gf aR,O fK (.arith .quo 3 vf i2),x eR 7 fU fK,a fV 2 eR,a ff 4 fV,l fL ff,O fW (.dG 2 IC i2),a ie 0 fW,l fM ie,m iq p2,m iB p2,z ir iB,og iC ir,O iU (.im 3 1 Cl none (some N7) none),EK jD fM iU,O jk (.buildSlice 139 1 [v0,.aS] [(0,2,ED)]),O kl (.append 139 32 2 [v0,.aS] false AD IE),m p6 kl] .ret))) .skip)))))) (S (q [k aY 0] (Bl 1 (Lp (S (q [m jw aY,a lE 4 p7,l mR lE,z l8 mR,u lh jw l8] (H N9 .skip (X 1))) (S (Bl 2 (r (m jW p8::pE nQ 4 p7 mS li aY mT 2 [a nR 0 mT,l oV nR,m oW p2,EK oX oV oW,O lj (.buildSlice 139 1 [v0,.aS] [(0,2,IH)]),O km (.append 139 32 2 [v0,.aS] false Ob II),m p8 km]))) (r (Cm jV aY kA []))))))) (q [m mF p8,m p6 mF] .ret)))))
def Zq:aG:=.code 82 [] (q [l p9 p1,nc aO p9,a aR 0 aO,a aY 3 aR,l aX aY,l bi p2,x bk 7 aX bi,a bo 2 bk,ld aZ 5 bo,l br p1,nc bJ br,a bN 5 bJ,l bR bN,l bO p2,x bL 1 bR bO,l bK bL,ln p4,M (.store 5 t4 jF) [] [⟨bK,.aW mX,none⟩,⟨bO,.aW t2,none⟩,⟨bR,.aW kR,none⟩,⟨br,.aW t1,none⟩],m p5 bK] (q [a bT 0 p4,l ch bT] (Bl 0 (q [K2 da 4 ch 67,m dg da] (H pD (q [m dj p0,a dq 4 p4,l dA dq,O dt (.dG 2 uZ i0),a cJ 0 dt,l dB cJ,m dH p5,l dM p2,O dk (.build [v0,(.bool false)] [(0,1,t51),(1,1,cT)]),O cR (.buildSlice 168 1 [v0,(.bool false)] [(0,2,yz)]),R dX (.call (C (.func 118 [] [])) [u6]) [cR] [⟨dM,.aW t2,none⟩,⟨dB,.aW tJ,none⟩,⟨dA,.aW ql,none⟩],R dY (.append 168 16 2 [v0,(.bool false)] false yw W') [] [⟨dB,.aW tJ,none⟩,⟨dA,.aW ql,none⟩],O dZ (.call uY [si,tL])] (H yA (r [m dR p0,a eM 4 p4,l d9 eM,O eI (.dG 2 rf i1),a eN 0 eI,l eg eN,m ep p5,l fS p2,O fg (.build [v0,(.bool false)] [(0,1,yB),(1,1,cF)]),O eO (.buildSlice 168 1 [v0,(.bool false)] [(0,2,Cj)]),R fy (.call (C (.func 118 [] [])) [AA]) [eO] [⟨fS,.aW t2,none⟩,⟨eg,.aW vc,none⟩,⟨d9,.aW u9,none⟩],R gp (.append 168 16 2 [v0,(.bool false)] false AB Ck) [] [⟨eg,.aW vc,none⟩,⟨d9,.aW u9,none⟩],O eJ (.call Ay [Az,AC])]) .skip)) (q [K2 fU 4 ch 68,m fJ fU] (H AF (q [m gf p5,z fK gf,og eR fK,m p6 eR] (r [m fV p0,l ff p1,l fL p2,m ie p5,m fM p6,O iq (.im 168 2 AL none (some EC) none),c fW 119 [AI,IC],O iB (.call AH [AJ,Cl])])) (q [a bY 4 p4,l ct bY,z cz ct,k b7 0] (Bl 1 (Lp (q [u cW b7 cz] (S (H n6 .skip (X 1)) (S (Bl 2 (q [x cV 2 ct b7,ld cH 2 cV,vh p8,s 2 p8 cH] (q [m di p0,a cD 0 p8,l bZ cD,m dl p5,O dh (.call n8 [yu,n9]),no du dh] (H sf .ret .skip)))) (r [pl dw b7 1,m b7 dw]))))))))))))))
def ZS:aG:=.code 79 [.tmp p2] (q [b p1 24 p0,O p2 (.bg (C .lS))] (q [ld p8 4 p1,a p9 3 p1,l aO p9,z aR aO,O aY (.jL 4 1 1 [(.bool false)] kD kD),a aX 3 p1,R bi (.aW kQ) [aY] [],z bk bi,O bo (.jL 252 24 1 [.aS] ma ma),O aZ (.build [(.str []),v0,v0,.aS,.aS,.aS,(.bool false)] [(0,4,t8),(4,1,kn),(5,1,jE)]),b br 194 aZ,O p3 (.alloc 161 [.lS]),s 1 p3 br] (q [l bJ p3,nc bN bJ,a bR 4 bN,l bO bR,O bL (.dG 1 mG i0),qq bL] (q [O bK (.buildSlice 3 1 [v0] [(0,1,i0)]),sj p4 42,s 1 p4 bK] (S (Bl 0 (Lp (S (q [l bT p4,z ch bT,O bY (.arith .gtr 3 o0 i0)] (H qk .skip (X 0))) (Bl 1 (q [l ct p4,O cz (.dG 1 So i0),l b7 cz,m p5 b7] (q [l cW p4,O cV (.im 3 1 n6 (some i1) none none),s 1 p4 cV] (q [l cH p3,m di p5,c cD 175 [rc,n8]] (Bl 2 (.rangeFunc se [bZ,dl] (q [m p6 bZ] (r [m p7 dl])) (Bl 3 (Bl 4 (q (l du p3::nc dw du::pE dg 4 dw da dj p6 dq 1 [l dA dq,no dt dA,m dh dt]) (H uX (q [l cJ p3,nc dB cJ,a dH 4 dB,l dX dH,m dM p6,l dk p3,nc cR dk,a dY 5 cR,l dZ dY,m dR p6,m eM p7,x d9 1 dX dM,qq d9,x eI 1 dZ dR,s 1 eI eM] (r [l eN p4,m eg p6,K6 ep eg,K1 fy eN ep,s 1 p4 fy])) (q (l fg p3::nc eO fg::pE gp 5 eO eJ fJ p6 fU 1 [l gf fU,m fK p7,c eR 200 [vf,wI],no fV eR,m fS fV]) (H yB (r [l ff p3,nc fL ff,a fW 6 fL,qq fW]) .skip))))))))))))))) (q [l ie p3,m p2 ie] .ret))))))
def ZT:aG:=.code 136 [.cell p2 false 1] (q [b p1 161 p0,O p2 (.alloc 4 [(.bool false)])] (S (q [l aX p1,nc bi aX,a bk 6 bi,l bo bk] (H jE (q [N (.store 1 t2 cF)] .ret) .skip)) (q [l aZ p1,l bJ p1,sj p3 256,sj p4 257,R br (.call (C (.func 201 [] [])) [jF]) [p4,p3] [⟨bJ,.aW t1,none⟩],R bN (.call (C (.func 202 [] [])) [mW]) [p4,p3] [],s 1 p3 br,s 1 p4 bN] (S (q [l bR p1,nc bO bR,a bL 0 bO,a bK 3 bL,l bT bK,z ch bT,k bY 0] (Bl 0 (Lp (q [u ct bY ch] (S (H So .skip (X 0)) (S (Bl 1 (q [m cz bY,x b7 7 bT bY,ld cW 7 b7,O p5 (.alloc 3 [v0]),K0 p6,s 1 p5 cz,s 7 p6 cW] (S (q [l cV p1,nc cH cV,a di 4 cH,l cD di,l bZ p5,x dl 1 cD bZ,l dh dl,no du dh] (H sf (X 1) .skip)) (S (q [a dw 2 p6,a dg 0 dw,l da dg] (Bl 2 (q [K2 dq 4 da 68,m dj dq] (H uY (q [l dt p1,l cJ p5,c dB 203 [t46,tJ],m dA dB,ex dH dA 0,ex dX dA 1,m p7 dH,m p8 dX] (q (m dM p8::no dk dM::m cR dk::K4 dY p1 cR::G dZ (.nilCheck tL) cR false::K8 dR 0 dZ cR::wJ eM 3 dR cR d9 (K3 eI p7 cR::K9 eN 7 d9 eI cR::wJ eg 0 eN cR ep (pa fy ep cR::K8 fS 2 p6 cR::wJ fg 1 fS cR eO [pa gp eO cR,G eJ (.arith .neq 3 AB AC) cR false,o fJ cR eJ]))) (H AF (q [N (.store 1 t2 cF)] .ret) .skip))) (q [K2 gf 4 da 69,m fU gf] (H tP (q [l fK p1,nc eR fK,a fV 5 eR,l ff fV,l fL p5,x fW 1 ff fL,l ie fW,z fM ie,O iq (.arith .gtr 3 EC i0)] (H Cl (q [N (.store 1 t2 cF)] .ret) .skip)) .skip)))))) (q [ld iB 7 p6,c ir 180 [AM]] (Bl 3 (.rangeFunc ID [iC,iU] (q [m p9 iC] (r [m aO iU])) (Bl 4 (q [l jD p4,m jk p9,x kl 2 jD jk,ld jw 2 kl,O aR (.alloc 260 [v0,v0]),s 2 aR jw] (q (a lE 0 aR::l mR lE::l l8 p5::O lh (.arith .eql 3 EF EG)::m jV lh::vi kA 1 aR jV jW [K7 nQ aO jV,G mS (.arith .lss 3 Ob IF) jV true,y li jV mS,m aY li]) (q (m mT p9::l nR p1::nc oV nR::a oW 0 oV::a oX 1 oW::l lj oX::O km (.arith .geq 3 Oc II)::m mF km::K7 mU aY mF::G lF (.unary .not X') mF true::y pz mF lF::m lm pz::vi nS 0 aR lm oY (d8 lG p5 lm::G lH (.arith .eql 3 Oe Of) lm true::K7 kP lH lm::K4 l9 p1 kP::G nT (.nilCheck Oh) kP false::wJ lI 4 nT kP nU (wJ nV 0 aR kP lJ (K9 nW 1 nU lJ kP::K4 pA nW kP::mc qV pA kP::G nX (.pick Og cT IM) lm true::K7 kB nX lm::K4 qW p3 kB::wJ qf 0 aR kB oZ [K4 qh p5 kB,G pB (.call (C (.func 204 [] [])) [Om,IN,EI]) kB false,mc tA pB kB,G qX (.pick Ol cT IP) lm true,y mV lm qX])))) (H Oo (q [N (.store 1 t2 cF)] .ret) .skip)))))))))))) (r [pl sc bY 1,m bY sc]))))))) (q [qq p2] .ret)))))
def Z5:aG:=.code 34 [.tmp p4] (q [f p4] (S (q (m p5 p0::nc p6 p5::a p7 0 p6::a p8 1 p7::l p9 p8::m aO p0::nc aR aO::a aY 0 aR::a aX 2 aY::l bi aX::og bk bi::m bo p1::c aZ 192 [t9,ma,jE]::no br aZ::m bJ br::K3 bN p0 bJ::G bR (.nilCheck kR) bJ false::wJ bO 4 bR bJ bL [K3 bK p1 bJ,K9 bT 1 bL bK bJ,K4 ch bT bJ,o bY bJ ch]) (H qk (q [f p4] .ret) .skip)) (q (m ct p0::nc cz ct::pE b7 4 cz cW cV p1 cH 1 [qq cH]) (q [kC p4] .ret))))
def aab:aG:=.code 94 [.tmp p2] (q [nl p2] (q [m bk p0,c bo 114 [ma],m p3 bo] (q [m aZ p0,nc br aZ,a bJ 0 br,a bN 3 bJ,l bR bN,z bO bR,O bL (.jL 3 8 1 [v0] mG mG),O bK (.buildSlice 3 1 [v0] [(0,1,(J 3 0))]),m bT p0,nc ch bT,a bY 0 ch,a ct 3 bY,R cz (.aW So) [bK,bL] [],z b7 cz,sj p4 42,sj p5 42,R cW (.call (C (.func 91 [] [])) [qj,yt]) [p5,p4,bL] [⟨bR,.aW kR,none⟩],s 1 p4 bL,s 1 p5 cW] (S (q [m cV p3,z cH cV,k di 0] (Bl 0 (Lp (q [u cD di cH] (S (H se .skip (X 0)) (S (Bl 1 (q [m bZ di,x dl 1 cV di,l dh dl,m p6 bZ,m p7 dh] (r [l du p4,m dw p7,m dg p6,x da 1 du dw,s 1 da dg]))) (r [pl dj di 1,m di dj]))))))) (q [O dq (.iP 226 [] [t4,t5]),m p8 dq] (q [l dA p5,O dt (.dG 1 uZ i0),N (.store 1 t46 i0)] (S (q [kC p9] (Bl 2 (Lp (S (q [m cJ p9] (H tJ .skip (X 2))) (Bl 3 (q [f p9] (q [m dB p3,z dH dB,k dX 0] (Bl 4 (Lp (q [u dM dX dH] (S (H t51 .skip (X 4)) (S (Bl 5 (q [x dk 1 dB dX,l cR dk,m aR cR] (q [m dY p0,m dZ aR,c dR 142 [tL,yA],z eM dR,k d9 0] (Bl 6 (Lp (q [u eI d9 eM] (S (H wH .skip (X 6)) (S (Bl 7 (q [x eN 1 dR d9,l eg eN,m aX eg] (q [m ep aR,m bi ep] (S (q [l fy p5,m fS aX,x fg 1 fy fS,l eO fg,O gp (.arith .neq 3 Ck (J 3 0))] (H AC (r [m eJ p8,l fJ p5,m fU aX,x gf 1 fJ fU,l fK gf,m eR aR,O fV (.call AD [wI,AG]),m bi fV]) .skip)) (q [m ff aX,O fL (.arith .neq 3 AI i0),m fW fL,d8 ie p5 fW,K7 fM aX fW,EL iq 1 ie fM fW,d8 iB iq fW,K7 ir bi fW,G iC (.arith .neq 3 AM ID) fW true,y iU fW iC] (H XX (r [l jD p5,m jk aX,m kl bi,x jw 1 jD jk,s 1 jw kl,kC p9]) .skip)))))) (r [pl lE d9 1,m d9 lE]))))))))) (r [pl mR dX 1,m dX mR]))))))))))))) (q [l l8 p5,O lh (.dG 1 EG i0),N (.store 1 N9 (J 3 0))] (q [l jV p5,m p2 jV] .ret)))))))))
def aad:aG:=.code 36 [.tmp p4,.tmp p5] (q [k p4 0,f p5] (q (m p7 p0::nc p8 p7::pE p9 5 p8 aO aR p1 aY 1 [l aX aY,m p6 aX]) (S (q [m bi p6,z bk bi,e bo bk 0] (H jE (q [O p4 (.bg (J 3 0)),f p5] .ret) .skip)) (q [m aZ p0,nc br aZ,a bJ 0 br,a bN 3 bJ,l bR bN,m bO p6,m bL p6,z bK bL,og bT bK,x ch 2 bO bT,a bY 0 ch,l ct bY,x cz 7 bR ct,a b7 2 cz,a cW 4 b7,l cV cW,O cH (.dG 2 tG i2),a di 0 cH,l cD di,m p4 cD,kC p5] .ret))))
def aaf:aG:=.code 87 [] (q [l aY p1,nc aX aY,a bi 0 aX,a bk 3 bi,l bo bk,l aZ p2,x br 7 bo aZ,a bJ 2 br,ld bN 5 bJ,l bR p1,nc bO bR,a bL 5 bO,l bK bL,l bT p2,x ch 1 bK bT,l bY ch,ln p4,M (.store 5 t4 kR) [] [⟨bY,.aW o0,none⟩,⟨bT,.aW t2,none⟩,⟨bK,.aW mX,none⟩,⟨bR,.aW t1,none⟩],m p5 bY] (q [a ct 0 p4,l cz ct] (Bl 0 (q [K2 dA 4 cz 67,m dq dA] (H ql (q [O dt (.buildSlice 5 2 [(i 4 0)] [(0,1,(I 4 0)),(1,1,(I 4 1))]),z cJ dt,k dB 0] (Bl 3 (Lp (q [u dH dB cJ] (S (H u6 .skip (X 3)) (S (Bl 4 (q [m dX dB,x dM 1 dt dB,l dk dM,m p6 dX,m p7 dk] (q (m cR p0::pE dY 4 p4 dZ dR p6 eM 2 [a d9 0 eM,l eI d9,m eN p5,l ep p2,m fy p7,O fS (.build [v0,(i 4 0)] [(0,1,AA),(1,1,AB)]),O fg (.buildSlice 255 1 [v0,(i 4 0)] [(0,2,yB)]),R eg (.call (C (.func 206 [] [])) [vc]) [fg] [⟨ep,.aW t2,none⟩,⟨eI,.aW rf,none⟩,⟨dZ,.aW tL,none⟩],R eO (.append 255 16 2 [v0,(i 4 0)] false Az Cj) [] [⟨eI,.aW rf,none⟩,⟨dZ,.aW tL,none⟩],O gp (.call W' [wH,Ck]),no eJ gp]) (H AD .ret .skip)))) (r [pl fJ dB 1,m dB fJ]))))))) (q [K2 gf 4 cz 68,m fU gf] (H tP (q [l eR p1,l fV p2,c ff 203 [AG,AH],m fK ff,ex fL fK 0,ex fW fK 1,m p8 fL,m p9 fW] (q [m ie p9] (H AL (r [m fM p0,m iq p8,m iB p5,m ir p5,z iC ir,og iU iC,O jD (.im 255 2 AM none (some XX) none),O jk (.call EC [Cl,ED])]) .skip))) (q [a b7 4 p4,l cW b7,z cV cW,k cH 0] (Bl 1 (Lp (q [u di cH cV] (S (H n8 .skip (X 1)) (S (Bl 2 (q [x cD 2 cW cH,ld bZ 2 cD,vh aR,s 2 aR bZ] (q [m dl p0,a dh 0 aR,l du dh,m dw p5,O dg (.call n9 [sf,tH]),no da dg] (H Ax .ret .skip)))) (r [pl dj cH 1,m cH dj]))))))))))))))
def aav:aG:=.code 61 [.tmp p4] (q [f p4] (S (q [m p6 p1,z p7 p6,O p8 (.arith .neq 3 t7 i3)] (H t8 (q [f p4] .ret) .skip)) (q [m p9 p1,O aO (.dG 2 t9 i2),ld aR 2 aO,vh p5,s 2 p5 aR] (q (m aY p0::m aX p1::O bi (.im 64 2 kQ none (some i2) none)::O bk (.buildSlice 3 2 [v0] [(0,1,i0),(1,1,i1)])::c bo 221 [kn,jX,ma]::m aZ bo::K7 br p1 aZ::G bJ (.dG 2 jG i0) aZ true::vi bN 1 bJ aZ bR (qp bO bR aZ::K7 bL p1 aZ::G bK (.dG 2 mX i1) aZ true::vi bT 1 bK aZ ch (qp bY ch aZ::G ct (.arith .add 3 mG qk) aZ true::vi cz 1 p5 aZ b7 (qp cW b7 aZ::G cV (.arith .add 3 So n6) aZ true::G cH (.arith .eql 3 tG i0) aZ true::y di aZ cH::m cD di::K7 bZ p0 cD::G dl (.nilCheck yu) cD true::AN dh 0 dl cD::vi du 3 dh cD dw (qp dg dw cD::G da (.arith .sub 3 pD i1) cD true::vi dj 0 p5 cD dq (G dA (.call (C (.func 192 [] [])) [i1,Ax,ql]) cD true::y dt cD dA::m cJ dt::K7 dB p0 cJ::G dH (.nilCheck si) cJ true::AN dX 0 dH cJ::vi dM 3 dX cJ dk (vi cR 0 p5 cJ dY (EL dZ 7 dk dY cJ::vi dR 0 dZ cJ eM [qp d9 eM cJ,G eI (.arith .gtr 3 rf i0) cJ true,y eN cJ eI,m p4 eN])))))))) .ret))))
def aaI:aG:=.code 43 [.tmp p6] (q [b p4 64 p1,f p6] (q (m p7 p0::nc p8 p7::a p9 0 p8::a aO 3 p9::l aR aO::z aY aR::og aX aY::a bi 0 p4::l bk bi::c bo 192 [i1,kQ,ma]::m aZ bo::K7 br p0 aZ::G bJ (.nilCheck jG) aZ true::AN bN 0 bJ aZ::vi bR 3 bN aZ bO (vi bL 0 p4 aZ bK (EL bT 7 bO bK aZ::vi ch 0 bT aZ bY (qp ct bY aZ::vi cz 1 p4 aZ b7 (qp cW b7 aZ::K7 cV p2 aZ::G cH (.arith .add 3 n6 tG) aZ true::G di (.arith .eql 3 So rc) aZ true::y cD aZ di::m bZ cD::vi dl 1 p4 bZ dh [K7 du p0 bZ,G dw (.iP 220 [sf] []) bZ true,G dg (.call (C (.func 193 [] [])) [uX,tH]) bZ true,y da bZ dg,m p6 da]))))) .ret))
structure Tb(ac:Nat->aG):Prop where
 aoX:ac 6=aoW
 aa8:ac 33=YL
 abb:ac 37=YP
 abd:ac 40=YR
 abe:ac 41=YS
 abf:ac 42=YT
 abn:ac 57=Y1
 abu:ac 77=Y9
 abA:ac 84=Ze
 abB:ac 85=Zf
 abL:ac 117=Zq
 acd:ac 173=ZS
 ace:ac 174=ZT
 acp:ac 194=Z5
 acw:ac 201=aab
 acy:ac 203=aad
 acA:ac 205=aaf
 acP:ac 223=aav
 ac2:ac 236=aaI
 aaY:ac 9=aon.1
 aaZ:ac 11=amz.1
 aoY:ac 12=anL.1
 aa0:ac 13=am1.1
 aoZ:ac 17=amQ.1
 aa1:ac 18=anq.1
 aa2:ac 21=anZ.1
 aa3:ac 22=amW.1
 aa4:ac 23=aod.1
 aa5:ac 26=amm.1
 ao0:ac 27=anA.1
 aa6:ac 28=anN.1
 aa7:ac 29=am9.1
 aa9:ac 34=amD.1
 aba:ac 35=amk.1
 ao1:ac 36=anm.1
 abc:ac 39=aoj.1
 abg:ac 45=am4.1
 ao2:ac 48=amq.1
 ao3:ac 49=amU.1
 abh:ac 50=amI.1
 abi:ac 51=amY.1
 abj:ac 52=aoa.1
 abk:ac 53=an4.1
 abl:ac 55=anz.1
 abm:ac 56=amB.1
 abo:ac 59=aof.1
 abp:ac 60=an8.1
 abq:ac 61=amS.1
 IT:ac 68=anV.1
 abr:ac 73=amj.1
 abs:ac 74=amR.1
 abt:ac 75=ank.1
 ao4:ac 76=amt.1
 abv:ac 78=anF.1
 abw:ac 79=ani.1
 abx:ac 80=anE.1
 aby:ac 82=anG.1
 abz:ac 83=anh.1
 abC:ac 88=aom.1
 abD:ac 89=anC.1
 abE:ac 91=aoi.1
 abF:ac 92=anR.1
 abG:ac 93=anr.1
 IU:ac 96=ams.1
 abH:ac 113=an7.1
 abI:ac 114=amu.1
 abJ:ac 115=amr.1
 abK:ac 116=amG.1
 abM:ac 118=anY.1
 abN:ac 119=amo.1
 abO:ac 120=anS.1
 abP:ac 121=an1.1
 abQ:ac 122=amp.1
 abR:ac 124=anI.1
 abS:ac 125=aob.1
 abT:ac 126=am2.1
 abU:ac 127=amx.1
 abV:ac 128=aok.1
 abW:ac 129=aog.1
 abX:ac 131=am3.1
 abY:ac 132=anM.1
 abZ:ac 133=amO.1
 ab0:ac 134=amd.1
 ab1:ac 140=amw.1
 Ox:ac 141=am5.1
 ab2:ac 142=anv.1
 ab3:ac 143=aoc.1
 ab4:ac 144=amb.1
 ab5:ac 145=ane.1
 ab6:ac 146=anw.1
 ab7:ac 147=amX.1
 ab8:ac 149=aoo.1
 ab9:ac 151=am8.1
 aca:ac 171=amC.1
 acb:ac 172=anO.1
 acf:ac 175=anT.1
 acg:ac 176=an5.1
 ach:ac 177=amJ.1
 aci:ac 178=amv.1
 acj:ac 179=aml.1
 ack:ac 180=anj.1
 acl:ac 181=anH.1
 acm:ac 182=anQ.1
 acn:ac 191=amV.1
 aco:ac 192=ans.1
 Oy:ac 193=ano.1
 acq:ac 195=anX.1
 acr:ac 196=anf.1
 acs:ac 197=amH.1
 act:ac 198=amh.1
 acu:ac 199=ama.1
 acv:ac 200=aoe.1
 acx:ac 202=anJ.1
 acz:ac 204=ant.1
 acB:ac 206=ami.1
 acC:ac 207=amA.1
 acD:ac 208=anK.1
 acE:ac 209=anp.1
 acF:ac 210=amf.1
 acG:ac 211=amc.1
 acH:ac 214=an3.1
 acI:ac 215=amN.1
 Oz:ac 216=amL.1
 acJ:ac 217=ann.1
 acK:ac 218=ame.1
 acL:ac 219=anb.1
 acM:ac 220=an0.1
 acN:ac 221=am6.1
 acO:ac 222=amF.1
 acQ:ac 224=anW.1
 acR:ac 225=anl.1
 acS:ac 226=anD.1
 acT:ac 227=ana.1
 acU:ac 228=an6.1
 acV:ac 229=anx.1
 acW:ac 230=anU.1
 acX:ac 231=anB.1
 acY:ac 232=am7.1
 acZ:ac 233=an2.1
 ac0:ac 234=amK.1
 ac1:ac 235=ang.1
 ac3:ac 237=am0.1
 ac4:ac 238=amZ.1
 ac5:ac 239=aoh.1
 ac6:ac 240=amn.1
 ac7:ac 241=amT.1
 ac8:ac 242=amE.1
 ac9:ac 243=amP.1
 ada:ac 244=aol.1
 adb:ac 245=anP.1
 adc:ac 247=anu.1
 ade:ac 248=amg.1
 adf:ac 249=amM.1
 adg:ac 254=amy.1
 adh:ac 263=an9.1
 IV:ac 38=.ix xP
 adi:ac 148=.ix xQ
 aj0:ac 1001=.ez uQ
 adj:ac 1002=.ez xN
 adk:ac 1003=.ez xM
 adl:ac 1004=.ez (BY 178)
 adm:ac 1005=.ez (BZ 178)
end Go.am.R
namespace Go.am.R
section
variable{ac:Nat->aG}{b σ:Type}
def vn(agg:Bool)(cs:List AV):AV:=if agg then .agg cs else cs.headD .alR
def Cs(size:Nat)(agg:Bool)(x:aJ):bW:=if agg then .gw size x else .aW x
theorem RO.OA{c:Cx}{l:List be}{s:List SI}{L:Kn}{H:ai}{d:Option ab}{size o:Nat}{agg:Bool}{cs:List AV}{q:ab}{x:aJ}(hc:cs.length=size)(h1:agg=false->size=1)(hat:∀t v,cs[t]?=some v->bh H q (o+t)=some v)(hrd:fE H q o size=some cs)(h:RO ac c l s (bC L d (vn agg cs)) H)(hx:bf L x=.az q o:=by exact cw):RO ac c (⟨d,Cs size agg x,none,[],[]⟩::l) s L H:=by
 cases agg with
 |true=>exact RO.gw h (hx:=hx) (hc:=hrd)
 |false=>
  have:=h1 rfl;subst this;obtain⟨v,rfl⟩:∃v,cs=[v]:=by match cs,hc with|[v],_=>exact⟨v,rfl⟩
  exact RO.aW h (hx:=hx) (hc:=hat 0 v rfl)
def ri(ac:Nat->aG)(A:ai)(fv:AV)(R:ai->b->List AV->Prop)(agg:Bool)(T:σ->List Th)(I:σ->Prop)(st:σ->b->Bool×σ)(la:List b):Prop:=
 ∀s a cs H us,a∈la->I s->R A a cs->aj A H (T s++us)->YF ac fv [vn agg cs] H λv H'=>v=.bool (st s a).1/\I (st s a).2/\∃c,aj A H' (T (st s a).2++c++us)
def ou(st:σ->b->Bool×σ):σ->List b->Nat->Option Nat×σ
 |s,[],_=>(none,s)
 |s,a::l,k=>if(st s a).1 then(some k,(st s a).2)else ou st (st s a).2 l (k+1)
def gW(st:σ->b->Bool×σ):σ->List b->Bool×σ
 |s,[]=>(true,s)
 |s,a::l=>if(st s a).1 then gW st (st s a).2 l else(false,(st s a).2)
theorem OB(st:σ->b->Bool×σ):∀(l:List b)(s:σ)(k:Nat),((ou (λs a=>(!(st s a).1,(st s a).2)) s l k).1.isSome=!(gW st s l).1)/\(ou (λs a=>(!(st s a).1,(st s a).2)) s l k).2=(gW st s l).2
 |[],s,k=>by simp[ou,gW]
 |a::l,s,k=>by
  simp only[ou,gW];cases h:(st s a).1;·simp
  simpa using OB st l (st s a).2 (k+1)
def OC:Option Nat->AV
 |some k=>aN k
 |none=>.int 3 (.negSucc 0)
theorem adn(o:Option Nat):∃z,OC o=aI z/\decide (0<=z)=o.isSome:=by cases o with|none=>exact⟨-1,rfl,rfl⟩|some k=>exact⟨.ofNat k,rfl,aB⟩
def IW(ld:bW)(size:Nat):bt:=(.seq (.region [O p4 (.bg (I 3 0))]) (.seq (.seq (.region [O p6 (.bg (T p0)),O p7 (.j7 (T p6)),O p8 (.bg (I 3 0))]) (.block 0 (.loop (.seq (.region [O p9 (.arith .lss 3 (T p8) (T p7))]) (.seq (.cond (T p9) .skip (.exit 0)) (.seq (.block 1 (.seq (.region [O aO (.bg (T p8)),O p5 (.bg (T aO))]) (.seq (.region [O aR (.bg (T p1)),O aY (.bg (T p0)),O aX (.bg (T p5)),O bi (.dG size (T aY) (T aX)),O bk ld,O bo (.call (T aR) [(T bk)])]) (.cond (T bo) (.seq (.region [O aZ (.bg (T p5)),O p4 (.bg (T aZ))]) .ret) .skip)))) (.region [O br (.arith .add 3 (T p8) (I 3 1)),O p8 (.bg (T br))]))))))) (.seq (.region [O p4 (.bg (J 3 0))]) .ret)))
theorem ado{f p size:Nat}{agg:Bool}(u:ac f=.code p [.tmp p4] (IW (Cs size agg (am.T bi)) size))(B:2<=p)(h1:agg=false->size=1){A H:ai}{fv sv:AV}{R:ai->b->List AV->Prop}{T:σ->List Th}{I:σ->Prop}{st:σ->b->Bool×σ}{la:List b}{s:σ}{us:List Th}(C:fv.bB=true)(o:ri ac A fv R agg T I st la)(w:∀a cs,R A a cs->(vn agg cs).bB=true)(hs:dV size R A la sv)(hl:la.length<=1000000)(m:I s)(U:aj A H (T s++us)){K:KT}(q:∀H' d,I (ou st s la 0).2->aj A H' (T (ou st s la 0).2++d++us)->K (OC (ou st s la 0).1) H'):YN ac f [sv,fv] H K:=by
 have⟨hd,_,_,E⟩:=hs.all;refine YF.code u (by simp;omega) ?_;refine au ?_;refine Ru.nm λS M x r=>?_;refine Ru.cC r (up (P:=λk=>∀g h,ou st h (la.drop k) k=ou st s la 0->I h->(∃d,aj A g (T h++d++us))->Ru ac _ S ([(p8,aN k)]++pk M [p0,p1,p7]) g) la.length (λk F y g h c m U=>?_) 0 af _ s rfl m ⟨[],by simpa using U⟩);subst x;subst r;refine Ru.loop ?_;refine au ?_;refine Ru.cond (λe=>?_) (λe=>?_)
 .rw[aj9 e]at c;simp only[ou]at c;obtain⟨d,U⟩:=U;refine au ?_;refine RO.cZ U.gr hs λG o1 cs hj t z hat hrd=>?_;have D:=w _ _ t;refine RO.OA z h1 hat hrd ?_;refine RO.cl ((o h la[k] cs g (d++us) (agB e) m t (by simpa using U)).mono ?_);rintro v H'⟨rfl,i,j,l⟩;refine au ?_;refine Ru.kN (λn=>?_) (λn=>?_);·rw[n]at c;simp only[bq]at c;refine au ?_;refine Ru.aV ?_;have:=q H' (j++d) (by rw[<-c];exact i) (by rw[<-c];simpa using l);rw[<-c]at this;exact this
  rw[n]at c;simp only[aes,bP]at c;refine au ?_;exact Ru.wk (y (k+1) af af H' _ c i ⟨j++d,by simpa using l⟩)
 rw[List.drop_of_length_le af]at c;simp only[ou]at c;obtain⟨d,U⟩:=U;refine Ru.exitTo ?_;refine au ?_;refine Ru.aV ?_;have:=q g d (by rw[<-c];exact m) (by rw[<-c];exact U);rw[<-c]at this;exact this
def OD(g:Nat):bt:=(.seq (.region [O p4 (.bg (C (.bool false)))]) (.seq (.region [O p5 (.bg (T p0)),O p6 (.bg (T p1)),O p7 (.call (C (.func g [] [])) [(T p5),(T p6)]),O p8 (.arith .geq 3 (T p7) (I 3 0)),O p4 (.bg (T p8))]) .ret))
def adp(e cl a:Nat):bt:=(.seq (.region [O p3 (.box e (T p1)),O p4 (.bg (C (.bool false)))]) (.seq (.region [O p5 (.bg (T p0)),O p6 (.iP cl [] [(T p3)]),O p7 (.call (C (.func a [] [])) [(T p5),(T p6)]),O p8 (.unary .not (T p7)),O p4 (.bg (T p8))]) .ret))
def adq:bt:=(.seq (.region [O p3 (.bg (C (.bool false)))]) (.seq (.region [O p4 (.aW (T p1)),O p5 (.bg (T p0)),O p6 (.call (T p4) [(T p5)]),O p7 (.unary .not (T p6)),O p3 (.bg (T p7))]) .ret))
def adr(t n:Nat):bt:=(.seq (.region [O p2 (.box t (T p0)),O p3 (.bg (C (.bool false)))]) (.seq (.region [O p4 (.aW (T p1)),O p5 (.gw n (T p2)),O p6 (.call (T p4) [(T p5)]),O p7 (.unary .not (T p6)),O p3 (.bg (T p7))]) .ret))
section
variable{A H:ai}{fv sv:AV}{R:ai->b->List AV->Prop}{T:σ->List Th}{I:σ->Prop}{st:σ->b->Bool×σ}{la:List b}{s:σ}{us:List Th}
theorem ads{f g k mt size:Nat}{agg:Bool}(l:ac f=.code mt [.tmp p4] (OD g))(p:2<=mt)(hg:ac g=.code k [.tmp p4] (IW (Cs size agg (am.T bi)) size))(d:2<=k)(h1:agg=false->size=1)(e:fv.bB=true)(h:ri ac A fv R agg T I st la)(m:∀a cs,R A a cs->(vn agg cs).bB=true)(hs:dV size R A la sv)(hl:la.length<=1000000)(n:I s)(U:aj A H (T s++us)){K:KT}(o:∀H' c,I (ou st s la 0).2->aj A H' (T (ou st s la 0).2++c++us)->K (.bool (ou st s la 0).1.isSome) H'):YN ac f [sv,fv] H K:=by have⟨hd,_,_,q⟩:=hs.all;refine YF.code l (by simp;omega) ?_;refine au ?_;refine RO.cl (ado hg d h1 e h m hs hl n U λH' c i j=>?_);obtain⟨z,e1,e2⟩:=adn (ou st s la 0).1;rw[e1];refine RO.geq (b:=0) ?_;rw[e2];refine au ?_;exact Ru.aV (o H' c i j)
theorem Ct{f g h p mt r size e cl:Nat}{agg:Bool}(t:ac f=.code r [.tmp p4] (adp e cl g))(y:2<=r)(hg:ac g=.code mt [.tmp p4] (OD h))(l:2<=mt)(u:ac h=.code p [.tmp p4] (IW (Cs size agg (am.T bi)) size))(m:2<=p)(h1:agg=false->size=1)(z:fv.bB=true)(n:fv.ee=true)(c:fv.cells=[fv])(o:∀q,ri ac A (.func cl [] [.az q 0]) R agg (λs=>tB e q [fv]::T s) I (λs a=>(!(st s a).1,(st s a).2)) la)(v:∀a cs,R A a cs->(vn agg cs).bB=true)(hs:dV size R A la sv)(hl:la.length<=1000000)(w:I s)(U:aj A H (T s++us)){K:KT}(x:∀H' k,I (gW st s la).2->aj A H' (T (gW st s la).2++k++us)->K (.bool (gW st s la).1) H'):YN ac f [sv,fv] H K:=by have⟨hd,_,_,B⟩:=hs.all;obtain⟨e1,e2⟩:=OB st la s 0;refine YF.code t (by simp;omega) ?_;refine au ?_;refine RO.dL U (λH1 q d=>?_) (ho:=by rw[c];exact ao n rfl);rw[c]at d;refine au ?_;refine RO.cl (ads hg l u m h1 rfl (o q) v hs hl w d λH' k i j=>?_);rw[e1];refine au ?_;rw[e2]at i j;refine Ru.aV ?_;rw[Bool.not_not];exact x H' k i j.tail
theorem IX{cl h e:Nat}(j:ac cl=.code h [.tmp p3] adq)(n:2<=h)(o:fv.bB=true)(k:∀a cs,R A a cs->(vn false cs).bB=true)(c:ri ac A fv R false T I st la)(q:ab):ri ac A (.func cl [] [.az q 0]) R false (λs=>tB e q [fv]::T s) I (λs a=>(!(st s a).1,(st s a).2)) la:=by intro s a cs H us l m i U;have p:=k a cs i;refine YF.code j (by simp;omega) ?_;refine bD ?_;refine RO.cl ((c s a cs H (tB e q [fv]::us) l m i U.Ej).mono ?_);rintro v H'⟨rfl,d,f,g⟩;refine bD ?_;exact Ru.aV ⟨rfl,d,f,by have:=g.wy;simpa using this⟩
theorem OE{cl j e t n:Nat}(m:ac cl=.code j [.tmp p3] (adr t n))(r:2<=j)(u:fv.bB=true)(o:∀a cs,R A a cs->cs.length=n/\dS cs=true)(f:ri ac A fv R true T I st la)(q:ab):ri ac A (.func cl [] [.az q 0]) R true (λs=>tB e q [fv]::T s) I (λs a=>(!(st s a).1,(st s a).2)) la:=by intro s a cs H us hm p k U;obtain⟨c,l⟩:=o a cs k;refine YF.code m (by simp;omega) ?_;refine au ?_;refine RO.dL U (λH1 d U=>?_) (v:=.agg cs);refine au ?_;refine RO.gU U 1 ?_;refine RO.eQ U 0 (m:=n) ?_ (hm:=by show 0+n<=cs.length;omega);rw[show((AV.agg cs).cells.drop 0).take n=cs by show(cs.drop 0).take n=cs;rw[List.drop_zero,<-c,ak7]];refine RO.cl ((f s a cs H1 (tB t d cs::tB e q [fv]::us) hm p k (aj.gF (xs:=[tB t d cs,tB e q [fv]]) U)).mono ?_);rintro v H'⟨rfl,g,h,i⟩;refine bD ?_;exact Ru.aV ⟨rfl,g,h,by have:=(aj.kO (xs:=[tB t d cs,tB e q [fv]]) i).tail;simpa using this⟩
end
end
end Go.am.R
namespace Go.am
section
def tX(q:ab)(o:cq):Th where
 P H a:=q∈a/\(∀j∈a,j=q)/\H.get q=o/\q.an<H.next.an
 fr h b hg:=⟨h.1,h.2.1,by rw[hg _ h.1];exact h.2.2.1,ako h.2.2.2 b⟩
 lt h:=by intro j hj;rw[h.2.1 j hj];exact h.2.2.2
variable{A H H':ai}{ts us:List Th}{q:ab}{o o':cq}
variable{ac:Nat->aG}{c:Cx}{s:List SI}{L:Kn}{d:Option ab}{l:List be}
theorem aj.AQ(U:aj A H ts)(o:cq):aj A (H.new o) (tX H.next o::ts):=U.push (fp:=[H.next]) (bm.new H o) ⟨aep.2 rfl,λj hj=>aep.1 hj,by rw[ai.dJ,aK rfl],by rw[ai.nK];omega⟩ (uU H)
theorem aj.tV(U:aj A H ts)(i:Nat)(hi:ts[i]?=some (tX q o))(o':cq):aj A (H.set q o') (ts.set i (tX q o')):=by
 obtain⟨b,a,_,hu⟩:=U.ki i hi;refine hu (fp':=[q]) ⟨Nat.le_of_eq (by rw[ai.gD]),λj hj=>?_,λj hj c=>?_⟩ ⟨aep.2 rfl,λj hj=>aep.1 hj,by rw[ai.aF,aK rfl],by exact a.2.2.2⟩;·rw[aep]at hj;subst hj;exact .inl a.1
 rw[ai.aF,aq λe:j=q=>hj (by rw[e];exact a.1)]
theorem aj.rj(U:aj A H ts)(i:Nat)(hi:ts[i]?=some (tX q o)):H.get q=o:=by obtain⟨b,a⟩:=U.get i hi;exact a.2.2.1
theorem RO.rF(U:aj A H ts){x:aJ}{t:List Nat}(h:∀H' q,aj A H' (tX q (.pf t t 0)::ts)->RO ac c l s (bC L d (.az q 0)) H')(b:bf L x=.str t:=by exact cw):RO ac c (⟨d,.rF x,none,[],[]⟩::l) s L H:=RO.op (λaa a=>by simp only[aE,a.gv b rfl]) (h _ _ (U.AQ _))
theorem RO.adt(U:aj A H ts)(i:Nat){x:aJ}{t:List Nat}{k:Nat}(h:RO ac c l s (bC L d (.tuple [.bool false])) H)(hi:ts[i]?=some (tX q (.pf t [] k)):=by rfl)(b:bf L x=.az q 0:=by exact cw):RO ac c (⟨d,.vJ x,none,[],[]⟩::l) s L H:=RO.op (λaa a=>by simp only[aE,a.gv b rfl,U.rj i hi]) h
theorem RO.adu(U:aj A H ts)(i:Nat){x:aJ}{t r:List Nat}{k b:Nat}(hb:b<128)(h:∀H',aj A H' (ts.set i (tX q (.pf t r (k+1))))->RO ac c l s (bC L d (.tuple [.bool true,.int 3 (.ofNat k),.int 2 (.ofNat b)])) H')(hi:ts[i]?=some (tX q (.pf t (b::r) k)):=by rfl)(e:bf L x=.az q 0:=by exact cw):RO ac c (⟨d,.vJ x,none,[],[]⟩::l) s L H:=RO.op (λaa a=>by simp only[aE,a.gv e rfl,U.rj i hi,show akv b 128=true from alN akY hb,bq]) (h _ (U.tV i hi _))
theorem RO.adv(U:aj A H ts)(h:∀H' q,aj A H' (tX q (.map [] 0)::ts)->RO ac c l s (bC L d (.map q)) H'):RO ac c (⟨d,.jK,none,[],[]⟩::l) s L H:=RO.jK (h _ _ (U.AQ _))
theorem RO.adw(U:aj A H ts)(i:Nat){e:eE}{m k w:aJ}{kv v:AV}{es:List aT}{ck:Nat}(h:∀H',aj A H' (ts.set i (tX q (.map (es++[⟨kv,v,ck⟩]) (ck+1))))->RO ac c l s (bC L d .alR) H')(hi:ts[i]?=some (tX q (.map es ck)):=by rfl)(g:bf L m=.map q:=by exact cw)(j:bf L k=kv:=by exact cw)(n:bf L w=v:=by exact cw)(b:kv.bB=true:=by first|rfl|assumption)(f:v.bB=true:=by first|rfl|assumption)(o:jA e kv=true:=by rfl)(p:findKey e kv es 0=some none:=by rfl):RO ac c (⟨d,.jy e m k w,none,[],[]⟩::l) s L H:=RO.op (λaa a=>by simp only[aE,a.gv g rfl,a.gv j b,a.gv n f,o,aku,aes,bP,U.rj i hi,p]) (h _ (U.tV i hi _))
theorem RO.adx(U:aj A H ts)(i:Nat){e:eE}{z:AV}{m k:aJ}{kv:AV}{es:List aT}{ck:Nat}{r:Option (Nat×AV)}(f:findKey e kv es 0=some r)(h:RO ac c l s (bC L d (.tuple (match r with|some p=>[p.2,.bool true]|none=>[z,.bool false]))) H)(hi:ts[i]?=some (tX q (.map es ck)):=by rfl)(g:bf L m=.map q:=by exact cw)(j:bf L k=kv:=by exact cw)(b:kv.bB=true:=by first|rfl|assumption)(n:jA e kv=true:=by rfl):RO ac c (⟨d,.lookup e z true m k,none,[],[]⟩::l) s L H:=RO.op (λaa a=>by simp only[aE,a.gv g rfl,a.gv j b,n,aku,aes,bP,U.rj i hi,f,bq];grind) h
theorem il{aa:ap AV}{p:ab}{x:aJ}{i:ab}{o:Nat}{v:AV}{re:List jo}(b:Le L aa)(d:bf L x=.az i o)(f:lk L p=v)(hd:v.bB=true)(hs:iy v v=true)(a:bh H i o=some v)(g:fG aa H re=true):fG aa H (⟨p,.aW x,none⟩::re)=true:=by
 have e:jp H (.az i o) 1 false=some v:=by
  unfold bh at a;split at a
  .rename_i cc n _ _ _ _ hg;split at a;·rename_i hb;injection a with a;have c:o<n:=akY.mp hb;simp only[jp,fE,hg,iI,aK c,a,aes,bP];rfl
   cases a
  cases a
 simp only[fG,fF,bq,aE,b.gv d rfl,e,akt,b.get f hd,hs,g,alK]
theorem RO.EN{f:aJ}{args:List aJ}{fv:AV}{a:List AV}{p:ab}{x:aJ}{i:ab}{o:Nat}{v:AV}(h:YF ac fv a H λr H'=>bh H' i o=some v/\RO ac c l s (bC L d r) H')(k:∀r,bf (bC L d r) x=.az i o:=by(intro r;conv=>lhs;whnf)<;>rfl)(m:∀r,lk (bC L d r) p=v:=by(intro r;conv=>lhs;whnf)<;>rfl)(b:v.bB=true:=by first|rfl|assumption)(hvs:iy v v=true:=by first|rfl|assumption|simp[iy,gz,fQ])(n:bf L f=fv:=by exact cw)(e:fv.bB=true:=by first|rfl|assumption)(q:args.map (bf L)=a:=by rfl)(g:a.all AV.bB=true:=by repeat first|rfl|assumption|(refine ad ?_ ?_)):RO ac c (⟨d,.call f args,none,[],[⟨p,.aW x,none⟩]⟩::l) s L H:=RO.HT (h.mono λr H' h=>⟨λaa j=>il j (k r) (m r) b hvs h.1 rfl,h.2⟩) n e q g
def tW(L:Kn)(H:ai):List iW->List AV->Prop
 |[],[]=>True
 |.tmp p::a,v::b=>lk L p=v/\v.bB=true/\tW L H a b
 |.cell p agg n::a,v::b=>(∃q o,lk L p=.az q o/\jp H (.az q o) n agg=some v)/\tW L H a b
 |_,_=>False
theorem tW.yf{aa:ap AV}(a:Le L aa):∀{b:List iW}{c:List AV},tW L H b c->gZ aa H b=some c|[],[],_=>rfl|.tmp p::b,v::c,h=>by simp only[gZ,tW.yf a h.2.2,akt,a.get h.1 h.2.1]|.cell p agg n::b,v::c,h=>by obtain⟨⟨q,o,h1,h2⟩,h3⟩:=h;simp only[gZ,tW.yf a h3,a.get h1 rfl,h2]|[],_::_,h=>h.elim|.tmp _::_,[],h=>h.elim|.cell .. ::_,[],h=>h.elim
theorem RJ.ady{j:cP}{b:List iW}{K:KT}{c:List AV}(hj:j=.none\/j=.ret)(d:tW L H b c)(h:K (iL c) H):RJ ac (wt b K) j [] L H:=λaa a=>by have:=d.yf (H:=H) a;rcases hj with rfl|rfl<;>simp only[kh,pu,jN,this]<;>exact h
theorem Ru.lM{a:List iW}{K:KT}{vs:List AV}{s:List SI}(b:tW L H a vs)(h:K (iL vs) H):Ru ac (wt a K) (.code .ret::s) L H:=Ru.ret (RJ.wp (RJ.ady (.inr rfl) b h))
theorem aj.agg(U:aj A H ts)(i:Nat){e n:Nat}{a:List AV}(hi:ts[i]?=some (tB e q a):=by rfl)(b:a.length=n:=by rfl):jp H (.az q 0) n true=some (.agg a):=by subst b;obtain⟨d,c⟩:=U.get i hi;have:=tB.qQ (o:=0) (m:=a.length) c af;simp[this,jp,bq,List.drop_zero,ak7]
theorem aj.one(U:aj A H ts)(i:Nat){e:Nat}{v:AV}(hi:ts[i]?=some (tB e q [v]):=by rfl):jp H (.az q 0) 1 false=some v:=by obtain⟨b,a⟩:=U.get i hi;have:=tB.qQ (o:=0) (m:=1) a aB;simp[this,jp,aes,bP]
end
end Go.am
namespace Go.am.R
section
variable{ac:Nat->aG}
theorem IY(T:Tb ac){H:ai}{a b n:Int}{K:KT}(c:K (.bool (decide (a<=n/\n<=b))) H):YN ac NY [aI a,aI b,aI n] H K:=by
 refine YF.code T.aco aB ?_;refine au ?_;refine RO.de (λh=>?_) (λh=>?_);·refine bD ?_;refine Ru.aV ?_;simpa[h]using c
 refine bD ?_;refine Ru.aV ?_;simpa[h]using c
theorem yE(T:Tb ac){H:ai}{a b n:Int}(h:a<=n/\n<=b){K:KT}(c:K (.bool true) H):YN ac NY [aI a,aI b,aI n] H K:=IY T (by grind)
def OF(ac:Nat->aG)(fv:AV)(t:List Nat):Prop:=∀b∈t,b<128/\∀{H:ai},YF ac fv [.int 2 (.ofNat b)] H λv H'=>v=.bool false/\H'=H
theorem adz(T:Tb ac){H:ai}{fv:AV}{t:List Nat}(h:fv.bB=true)(d:OF ac fv t){K:KT}(e:∀H',bm H H'->K (aI (-1)) H'):YN ac XQ [.str t,fv,.bool true] H K:=by
 refine YF.code T.ac4 aB ?_;refine au ?_;refine RO.rF (aj.dc H) λH1 q U=>?_;refine au ?_;refine Ru.nm λS M f c=>?_;refine Ru.cC c (up (P:=λk=>∀b,aj H b [tX q (.pf t (t.drop k) k)]->Ru ac _ S ([]++pk M [p0,p1,p2,aO]) b) t.length (λk i g b U=>?_) 0 af _ U);subst f;subst c;refine Ru.loop ?_;refine au ?_;by_cases a:k<t.length;·rw[aj9 a]at U;obtain⟨h1,h2⟩:=d _ (agB a);refine RO.adu U 0 h1 λj U=>?_;refine au ?_;refine RO.cl (h2.mono ?_);rintro v l⟨rfl,rfl⟩;refine au ?_;refine RO.eq (t:=false) ?_;refine au ?_;exact Ru.wk (g (k+1) af af _ U)
 rw[List.drop_of_length_le af]at U;refine RO.adt U 0 ?_;refine au ?_;refine Ru.exitTo ?_;refine au ?_;exact Ru.aV (e _ U.gr)
theorem OG(T:Tb ac){H:ai}{fv:AV}{t:List Nat}(a:fv.bB=true)(b:OF ac fv t){K:KT}(c:∀H',bm H H'->K (.bool false) H'):YN ac XD [.str t,fv] H K:=by
 refine YF.code T.acI aB ?_;refine au ?_;have h2:YN ac XL [.str t,fv] H λv H'=>v=aI (-1)/\bm H H':=by refine YF.code T.acW aB ?_;refine au ?_;refine RO.cl (adz T a b λH' hg=>?_);refine au ?_;exact Ru.aV ⟨rfl,hg⟩
 refine RO.cl (h2.mono ?_);rintro v H'⟨rfl,hg⟩;refine RO.geq (a:= -1) (b:=0) ?_;refine au ?_;exact Ru.aV (c _ hg)
def su(t:List Nat):Prop:=1<=t.length/\t.length<=40/\∀b∈t,33<=b/\b<=126/\b≠34
def EO(t:List Nat):Prop:=t.length<=200/\∀b∈t,(32<=b/\b<=126)\/b=10
theorem IZ(T:Tb ac){H:ai}{t:List Nat}(a:su t){K:KT}(c:∀H',bm H H'->K (.bool true) H'):YN ac NX [.str t] H K:=by
 obtain⟨h1,h2,h3⟩:=a;refine YF.code T.acn aB ?_;refine au ?_;refine RO.kH ?_;refine au ?_;refine RO.cl (yE T (a:=1) (b:=40) (n:=t.length) af ?_);refine bD ?_;refine RO.cl (OG T (fv:=.func XC [] []) rfl (λb hb=>?_) λH1 hg=>?_);·obtain⟨e,f,d⟩:=h3 b hb;refine⟨af,λ{H}=>?_⟩;refine YF.code T.acH aB ?_;refine au ?_;refine RO.de (λh=>by omega) (λh=>?_);refine bD ?_;refine RO.de (λh=>by omega) (λh=>?_);refine bD ?_;refine Ru.aV ⟨?_,rfl⟩;rw[decide_eq_false d]
 refine bD ?_;exact Ru.aV (c _ hg)
theorem adA(T:Tb ac){H:ai}{t:List Nat}(a:EO t){K:KT}(c:∀H',bm H H'->K (.bool true) H'):YN ac N4 [.str t] H K:=by
 obtain⟨h1,h3⟩:=a;refine YF.code T.ac6 aB ?_;refine au ?_;refine RO.kH ?_;refine au ?_;refine RO.de (λh=>?_) (λh=>by simp at h;omega);refine bD ?_;refine RO.cl (OG T (fv:=.func XW [] []) rfl (λb hb=>?_) λH1 hg=>?_)
 .have d:=h3 b hb;refine⟨af,λ{H}=>?_⟩;refine YF.code T.adc aB ?_;refine au ?_;refine RO.de (λh=>?_) (λh=>?_);·refine bD ?_;refine Ru.aV ⟨?_,rfl⟩;rw[decide_eq_false af]
  refine bD ?_;refine RO.de (λh=>by omega) (λh=>?_);refine bD ?_;exact Ru.aV ⟨rfl,rfl⟩
 refine bD ?_;exact Ru.aV (c _ hg)
theorem adB(T:Tb ac){H:ai}{K:KT}(a:K (.bool true) H):YN ac N3 [.str []] H K:=by refine YF.code T.ac0 aB ?_;refine au ?_;refine RO.iE ?_;refine au ?_;exact Ru.aV a
def Cu:List (List Nat):=[[110,101,103],[110,111,116],[115,105,122,101],[115,104,111,119],[114,101,97,100]]
def Cv:List (List Nat):=[[97,100,100],[115,117,98],[109,117,108],[100,105,118],[109,111,100],[108,116],[108,101],[101,113],[106,111,105,110],[98,121,116,101],[115,97,109,101]]
def Cw:List (List Nat):=[[99,117,116]]
def iu(t:List Nat):Nat:=if t∈Cu then 1 else if t∈Cv then 2 else if t∈Cw then 3 else 0
theorem vN:∀{a b:List Nat},j8 a b=true↔a=b
 |[],[]=>by simp[j8]
 |a::l,b::m=>by
  simp only[j8,aj6,vN (a:=l) (b:=m),akn];constructor;·exact λh=>⟨aj4 h.1,h.2⟩
  exact λh=>⟨h.1▸ald a,h.2⟩
 |[],_::_=>by simp[j8]
 |_::_,[]=>by simp[j8]
theorem qv(a b:List Nat):j8 a b=decide (a=b):=by
 cases h:j8 a b;·symm;rw[decide_eq_false_iff_not];intro e;rw[vN.2 e]at h;cases h
 symm;rw[decide_eq_true_eq];exact vN.1 h
theorem RO.Ca{c:Cx}{s:List SI}{L:Kn}{H:ai}{d:Option ab}{l:List be}{x y:aJ}{a b:List Nat}(h:RO ac c l s (bC L d (.bool (decide (a=b)))) H)(e:bf L x=.str a:=by exact cw)(f:bf L y=.str b:=by exact cw):RO ac c (⟨d,.iE .eql x y,none,[],[]⟩::l) s L H:=RO.iE (v:=.bool (decide (a=b))) h e rfl f rfl (by simp only[Ba,qv])
set_option maxHeartbeats 4000000 in theorem adC(T:Tb ac){H:ai}{t:List Nat}{K:KT}(a:K (aN (iu t)) H):YN ac XT [.str t] H K:=by
 refine YF.code T.ac8 aB ?_;refine au ?_;repeat' first|refine RO.Ca (RO.de (λh=>?_) (λh=>?_))|refine RO.bg ?_|refine RO.nil ?_|refine Ru.region ?_|refine Ru.seq ?_|refine Ru.block ?_|refine Ru.skip ?_|refine Ru.aH ?_|refine Ru.pp ?_|refine Ru.nI ?_|refine Ru.aV ?_
 all_goals
  first|(subst_vars;exact a)|
   (
    have e:iu t=0:=by simp[iu,Cu,Cv,Cw, *]
    rw[e]at a;exact a)
abbrev zv:List AV:=[aU 0,aI 0,.str []]
def yF:ai->Unit->List AV->Prop:=λ_ _ cs=>cs=zv
theorem adD(T:Tb ac){H:ai}{d f:AV}{g:List Unit}{ks:List Nat}(h:dV 3 yF H g d)(i:Ie H ks f)(l:0<g.length)(h0:∀k∈ks,k≠0){K:KT}(j:∀H',bm H H'->K (.bool false) H'):YN ac N5 [d,f] H K:=by
 have⟨hd,_,_,hl⟩:=h.all;have⟨n,_,_,p⟩:=i.all;refine YF.code T.adg aB ?_;refine au ?_;refine Ru.cond (λb=>?_) (λb=>?_);·refine au ?_;exact Ru.aV (j H (bm.refl H))
 refine au ?_;refine Ru.loop ?_;refine au ?_;refine Ru.cond (λa=>?_) (λa=>absurd l a);refine au ?_;refine RO.cZ (bm.refl H) h λq o cs hj m s hat hrd=>?_;cases m;refine bD ?_;refine RO.gI (aj.dc H) λH1 t U=>?_;refine bD ?_;refine RO.iT U 0 (λu U=>?_);refine bD ?_;refine RO.lg U.gr i (λv o2 c r=>?_) (hj:=by omega);refine bD ?_;refine Ru.cond (λa=>?_) (λa=>?_);·refine bD ?_;exact Ru.aV (j _ U.gr)
 exact(a λe=>h0 _ (agB c) e.symm).elim
theorem adE(T:Tb ac){H:ai}{K:KT}(a:∀H' q,aj H H' [tB Ih q zv]->K (.bool true) H'):YN ac IB [.agg zv] H K:=by refine YF.code T.ada aB ?_;refine au ?_;refine RO.dL (aj.dc H) λH1 q U=>?_;refine bD ?_;refine RO.eQ U 0 ?_;refine bD ?_;refine RO.eq (t:=true) ?_;refine bD ?_;exact Ru.aV (a _ q U)
theorem adF(T:Tb ac){H:ai}{d:AV}{b:List Unit}(f:dV 3 yF H b d)(k:b.length<=4){K:KT}(g:∀H',bm H H'->K (.bool true) H'):YN ac XU [d,.func IB [] []] H K:=by
 have i:ri ac H (.func IB [] []) yF true (λ_:Unit=>[]) (λ_=>True) (λs _=>(true,s)) b:=by rintro s a cs H us _ _ rfl U;refine adE T λH' q c=>⟨rfl,trivial,[tB Ih q zv],by simpa using U.fC c⟩
 have e:∀(l:List Unit)s,gW (λ(s:Unit)(_:Unit)=>(true,s)) s l=(true,s):=λl=>by induction l with|nil=>intro s;rfl|cons a l j=>intro s;simpa[gW]using j s
 refine Ct T.ac9 bA T.ade bA T.adh (size:=3) (agg:=true) bA (λh=>by cases h) (st:=λs _=>(true,s)) (T:=λ_:Unit=>[]) (I:=λ_=>True) (s:=()) (us:=[]) rfl rfl rfl (OE T.adf bA rfl (λa cs h=>by cases h;exact⟨rfl,rfl⟩) i) (λa cs h=>by cases h;rfl) f af trivial (aj.dc H) λH' m _ U=>?_;rw[e];exact g H' U.gr
def nz:AV->Bool
 |.int 4 (.ofNat (_+1))=>true
 |_=>false
theorem OH:∀{a:List AV},a.all nz=true->∃ks:List Nat,a=ks.map aU/\∀k∈ks,k≠0
 |[],_=>⟨[],rfl,λ_ h=>by cases h⟩
 |w::a,h=>by
  simp only[List.all_cons,aj6]at h;obtain⟨ks,e,h2⟩:=OH h.2;have h1:=h.1;unfold nz at h1;split at h1;·rename_i k;exact⟨(k+1)::ks,by rw[e];rfl,λj hj=>(aeV.1 hj).elim (λe=>by omega) (h2 j)⟩
  cases h1
theorem RO.bsK{B:ai}{c:Cx}{s:List SI}{L:Kn}{H:ai}{d:Option ab}{l:List be}{e n:Nat}{b a:List AV}{f:List (Nat×Nat×aJ)}(i:bm B H)(h:∀v H',bm B H'->Sl H' 1 a a.length v->v.bB=true->RO ac c l s (bC L d v) H')(hl:qO L (fO b n) f=some a:=by exact cw)(j:a.length=n:=by rfl)(h1:dS a=true:=by rfl):RO ac c (⟨d,.buildSlice e n b f,none,[],[]⟩::l) s L H:=by subst j;refine RO.buildSlice ?_ hl h1;have g:dU (H.new (.cells (db a) (a.length*1) e true [] 0)) [H.next] e 1 a a.length true (.slice H.next 0 a.length a.length true):=dU.new (alt _).symm true true;rw[alt]at g;exact h _ _ (i.trans (bm.new H _)) g.sl rfl
theorem adH(T:Tb ac){B H:ai}{b c:AV}{d:List Unit}{a:List AV}(e:bm B H)(f:dV 3 yF B d b)(g:0<d.length)(i:Sl H 1 a a.length c)(h0:a.all nz=true){K:KT}(j:∀H',bm B H'->K (.bool false) H'):YN ac N5 [b,c] H K:=by obtain⟨ks,rfl,h1⟩:=OH h0;exact adD T (ks:=ks) (dQ.jU (λ_ h=>h) e f) (by simpa using i) g h1 λH' hg=>j H' (e.trans hg)
set_option maxHeartbeats 4000000 in theorem adI(T:Tb ac){H:ai}{t:List Nat}{b:AV}{c:List Unit}(d:dV 3 yF H c b)(e:0<c.length){K:KT}(f:∀H',bm H H'->K (.bool false) H'):YN ac XV [.str t,b] H K:=by
 have⟨hd,_,_,_⟩:=d.all;have a:=bm.refl H;refine YF.code T.adb aB ?_;repeat' first|refine RO.Ca (RO.de (λ_=>?_) (λ_=>?_))|refine RO.bg ?_|refine RO.nil ?_|refine RO.bsK a (λ_ _ a hs _=>?_)|(refine RO.cl (adH T a d e hs rfl λ_ a=>?_))|refine Ru.region ?_|refine Ru.seq ?_|refine Ru.block ?_|refine Ru.skip ?_|refine Ru.aH ?_|refine Ru.pp ?_|refine Ru.nI ?_|refine RO.tm ?_|refine RO.yg ?_|refine RO.Al ?_|refine RO.Am ?_|refine Ru.aV ?_
 all_goals exact f _ (by assumption)
theorem adJ(T:Tb ac){H:ai}{t:List Nat}{g:AV}{b:List Unit}(d:dV 3 yF H b g)(hl:b.length<=iu t)(h0:0<iu t){K:KT}(c:∀H',bm H H'->K (.tuple [.agg zv,.str [],aN (if b.length=iu t then 11 else 2)]) H'):YN ac XR [.str t,g] H K:=by
 have⟨hd,_,_,i⟩:=d.all;have h3:iu t<=3:=by unfold iu;split<;>(try split)<;>(try split)<;>omega
 refine YF.code T.ac5 aB ?_;refine au ?_;refine RO.gI (aj.dc H) λH1 q U=>?_;refine bD ?_;refine RO.cl (adC T ?_);refine bD ?_;refine Ru.cond (λ(h:iu t=0)=>absurd h af) (λ_=>?_);refine bD ?_;refine Ru.cond (λh=>?_) (λh=>?_);·refine bD ?_;refine RO.eQ U 0 ?_;refine RO.iT U 0 (λf U=>?_);refine bD ?_;have a:b.length≠iu t:=λe=>h (by rw[e]);rw[aq a]at c;exact Ru.lM (vs:=[_,_,_]) ⟨⟨q,0,rfl,U.agg 0⟩,rfl,rfl,rfl,rfl,trivial⟩ (c _ U.gr)
 have a:b.length=iu t:=Classical.not_not.1 h;rw[aK a]at c;refine bD ?_;refine RO.cl (adF T (dQ.jU (λ_ h=>h) U.gr d) af λf hg=>?_);have U:=U.cI hg;refine bD ?_;refine RO.cl (adI T (dQ.jU (λ_ h=>h) U.gr d) af λf hg=>?_);have U:=U.cI hg;refine bD ?_;refine RO.eQ U 0 ?_;refine RO.iT U 0 (λf U=>?_);refine bD ?_;exact Ru.lM (vs:=[_,_,_]) ⟨⟨q,0,rfl,U.agg 0⟩,rfl,rfl,rfl,rfl,trivial⟩ (c _ U.gr)
theorem adK{H:ai}{k:Nat}{a:AV}(b:k<=3)(h:Sl H 3 ((fO zv 4).take (k*3)) k a):dV 3 yF H (ahr k ()) a:=by
 refine⟨_,by simpa using h,λj hj=>?_⟩;simp only[ak9]at hj;match k,b with
  |0,_=>omega
  |1,_=>match j,hj with|0,_=>rfl
  |2,_=>match j,hj with|0,_=>rfl|1,_=>rfl
  |3,_=>match j,hj with|0,_=>rfl|1,_=>rfl|2,_=>rfl
theorem adL(T:Tb ac){H:ai}{t:List Nat}(h0:0<iu t){K:KT}(d:∀H',bm H H'->K (.tuple [aN (iu t),.bool true]) H'):YN ac XM [.str t] H K:=by
 have h3:iu t<=3:=by unfold iu;split<;>(try split)<;>(try split)<;>omega
 refine YF.code T.acY aB ?_;refine au ?_;refine RO.oT (aj.dc H) (n:=4) (λH1 q U=>?_) (hz:=rfl);refine au ?_;refine Ru.nm λS M e c=>?_;refine Ru.cC c (up (P:=λk=>∀b,aj H b [tS Ih 3 (fO zv 4) 4 true (.slice q 0 4 4 true)]->Ru ac _ S ([(aY,aN k)]++pk M [p0,p4,aO,aR]) b) (iu t) (λk f g b U=>?_) 0 af _ U);subst e;subst c;refine Ru.loop ?_;refine au ?_;refine Ru.cond (λ(i:k<4)=>?_) (λh=>absurd (show k<4 by omega) h);refine au ?_;refine RO.V2 (U.sl 0) (λj hs=>?_);have hz:=adK af hs;have hd:=hz.bB;refine au ?_;refine RO.cl (adJ T hz (by simpa using f) h0 λl hg=>?_);have U:=U.cI hg;rw[ak9];refine au ?_;refine RO.fx U (λm n U=>?_);refine au ?_;by_cases a:k=iu t;·rw[aK a];refine bD ?_;refine Ru.tk ?_;rw[a];exact d _ U.gr
 rw[aq a];refine bD ?_;exact Ru.wk (g (k+1) af af _ U.tail)
structure qy where
 vq:Bool
 EP:Int
 EQ:Int
 nm:Nat
 ER:Int
 ES:Int
def yG:Nat->AV
 |0=>.func N3 [] []
 |1=>.func NX [] []
 |_=>.func N4 [] []
def wL(r:qy):AV:=.agg [.bool r.vq,aI r.EP,aI r.EQ,yG r.nm,aI r.ER,aI r.ES]
def sw:List (Nat×qy):=[(1,⟨true,0,0,0, -1000000000,1000000000⟩),(2,⟨true,0,0,0,0,1⟩),(3,⟨true,0,0,2,0,0⟩),(4,⟨true,0,0,0,0,0⟩),(11,⟨true,0,0,1,0,0⟩),(40,⟨true,0,1073741824,1,0,0⟩),(15,⟨true,0,6,1,0,0⟩),(18,⟨true,0,6,1,0,0⟩),(37,⟨true,0,0,1,0,0⟩),(38,⟨false,1,1,1,0,0⟩),(16,⟨true,1,1,1,0,5⟩),(17,⟨false,2,2,1,0,5⟩),(23,⟨false,1,1,0,0,0⟩),(24,⟨true,0,0,0,1,8⟩),(25,⟨false,2,2,0,0,0⟩),(26,⟨true,1,1,0,0,0⟩),(31,⟨false,0,0,0,0,0⟩),(32,⟨false,1,1,0,0,0⟩),(33,⟨true,0,0,0,0,0⟩),(34,⟨false,0,0,0,0,0⟩),(35,⟨true,1,1,0,0,0⟩),(39,⟨false,0,0,0,0,0⟩),(64,⟨true,1,1,0,0,3⟩)]
def tY:Nat->List (Nat×qy)->List aT
 |_,[]=>[]
 |b,p::l=>⟨aU p.1,wL p.2,b⟩::tY (b+1) l
def Cy(op:Nat):List (Nat×qy)->Nat->Option (Nat×qy)
 |[],_=>none
 |p::l,i=>if op=p.1 then some (i,p.2)else Cy op l (i+1)
theorem I0(op:Nat):∀l b i,findKey .int (aU op) (tY b l) i=some ((Cy op l i).map λp=>(p.1,wL p.2))
 |[],_,_=>rfl
 |p::l,b,i=>by
  have e:eA 64 .int (aU op) (aU p.1)=some (decide (op=p.1)):=by
   show(if(4:Nat)=4 then some (iQ (.ofNat op) (.ofNat p.1))else none)=_;rw[aK rfl];congr 1;by_cases h:op=p.1;·simp[iQ,h]
   simp only[iQ,h,decide_false];cases hb:akb op p.1 with|false=>rfl|true=>exact absurd (aj4 hb) h
  simp only[tY,findKey,e,Cy];by_cases h:op=p.1;·grind
  simp only[h,decide_false,bP];exact I0 op l (b+1) (i+1)
theorem adM(T:Tb ac){H:ai}{b:Bool}{n:Int}{K:KT}(a:∀H',bm H H'->K (wL ⟨b,n,n,0,0,0⟩) H'):YN ac XS [.bool b,aI n] H K:=by refine YF.code T.ac7 aB ?_;refine au ?_;refine RO.gI (aj.dc H) λH1 q U=>?_;refine bD ?_;refine RO.iT U 0 (λc U=>?_);refine bD ?_;exact Ru.lM (vs:=[_]) ⟨⟨q,0,rfl,U.agg 0⟩,trivial⟩ (a _ U.gr)
theorem I1(T:Tb ac){H:ai}{b:Bool}{n m:Int}{K:KT}(a:∀H',bm H H'->K (wL ⟨b,n,m,1,0,0⟩) H'):YN ac XN [.bool b,aI n,aI m] H K:=by refine YF.code T.acZ aB ?_;refine au ?_;refine RO.gI (aj.dc H) λH1 q U=>?_;refine bD ?_;refine RO.iT U 0 (λc U=>?_);refine bD ?_;exact Ru.lM (vs:=[_]) ⟨⟨q,0,rfl,U.agg 0⟩,trivial⟩ (a _ U.gr)
theorem OI:∀(l:List (Nat×qy))(b:Nat)(p:Nat×qy),tY b (l++[p])=tY b l++[⟨aU p.1,wL p.2,b+l.length⟩]|[],_,_=>rfl|a::l,b,p=>by simp only[akV,tY,OI l (b+1) p,akA,alo,Nat.add_comm 1]
theorem RO.adN{c:Cx}{s:List SI}{L:Kn}{H A:ai}{d:Option ab}{l:List be}{q:ab}{a:List Th}{k op:Nat}{r:qy}{m w:aJ}(U:aj A H (tX q (.map (tY 0 (sw.take k)) k)::a))(b:sw[k]?=some (op,r))(h:∀H',aj A H' (tX q (.map (tY 0 (sw.take (k+1))) (k+1))::a)->RO ac c l s (bC L d .alR) H')(f:Cy op (sw.take k) 0=none:=by rfl)(g:bf L m=.map q:=by exact cw)(i:bf L w=wL r:=by exact cw):RO ac c (⟨d,.jy .int m (.c (aU op)) w,none,[],[]⟩::l) s L H:=by
 refine RO.adw U 0 (kv:=aU op) (λH' j=>h H' ?_) rfl g rfl i rfl rfl rfl (by simp[f,I0]);obtain⟨n,_⟩:=akR.1 b;have e:sw.take (k+1)=sw.take k++[(op,r)]:=by rw[List.take_add_one,b];rfl
 have e2:(sw.take k).length=k:=by rw[akF];omega
 simp_all[OI,akh]
set_option maxHeartbeats 4000000 in theorem adO(T:Tb ac){H:ai}{K:KT}(a:∀H' q,aj H H' [tX q (.map (tY 0 sw) 23)]->K (.map q) H'):YN ac XO [] H K:=by
 refine YF.code T.ac1 aB ?_;refine au ?_;refine RO.adv (aj.dc H) λH1 q U=>?_;have U:aj H H1 (tX q (.map (tY 0 (sw.take 0)) 0)::[]):=U;repeat first|refine RO.build ?_|refine RO.adN U rfl (λ_ U=>?_)|(refine RO.cl (adM T λ_ hg=>?_);have U:=U.cI hg)|(refine RO.cl (I1 T λ_ hg=>?_);have U:=U.cI hg)|refine RO.bg ?_|refine RO.nil ?_
 exact Ru.aV (a _ q U)
def yH(s:G.ic):Option qy:=
 if s.op=14 then(if 0<iu s.name then some ⟨true,iu s.name,iu s.name,1,0,0⟩else none)
 else if s.op=13 then(if s.m=1 then some ⟨true,0,6,1,0,0⟩else some ⟨true,1,7,0,0,0⟩)
 else(Cy s.op sw 0).map (·.2)
theorem adP(T:Tb ac){H:ai}{s:G.ic}{cs:List AV}(hs:qT H s cs){r:qy}(a:yH s=some r){K:KT}(d:∀H',bm H H'->K (.tuple [wL r,.bool true]) H'):YN ac XE [.agg cs] H K:=by
 have k:=hs.one;obtain⟨o,rfl,j⟩:=hs;have⟨hd,_,_,t⟩:=j.all;refine YF.code T.acL aB ?_;refine au ?_;refine RO.dL (aj.dc H) λH1 q U=>?_;refine bD ?_;refine RO.gI U λu e U=>?_;refine bD ?_;unfold yH at a;refine Ru.cond (λc=>?_) (λc=>?_)
 .rw[aK c]at a;split at a;case isFalse=>cases a
  rename_i h0;injection a with a;subst a;refine bD ?_;refine RO.cl (adL T h0 λg hg=>?_);have U:=U.cI hg;refine bD ?_;refine RO.cl (I1 T λg hg=>?_);have U:=U.cI hg;refine bD ?_;refine RO.iT U 0 (λf U=>?_);refine bD ?_;exact Ru.lM (vs:=[_,_]) ⟨⟨e,0,rfl,U.agg 0⟩,rfl,rfl,trivial⟩ (d _ U.gr)
 rw[aq c]at a;refine bD ?_;refine RO.de (λb=>?_) (λb=>?_)
 .rw[aK b]at a;refine bD ?_;refine Ru.cond (λ(h1:s.m=1)=>?_) (λ(h1:¬s.m=1)=>?_);·rw[aK h1]at a;injection a with a;subst a;refine bD ?_;refine RO.cl (I1 T λg hg=>?_);have U:=U.cI hg;refine RO.iT U 0 (λf U=>?_);refine bD ?_;exact Ru.lM (vs:=[_,_]) ⟨⟨e,0,rfl,U.agg 0⟩,rfl,rfl,trivial⟩ (d _ U.gr)
  rw[aq h1]at a;injection a with a;subst a;refine bD ?_;refine Ru.cond (λh=>?_) (λh=>absurd b h);refine bD ?_;refine RO.iT U 0 (λf U=>?_);refine bD ?_;exact Ru.lM (vs:=[_,_]) ⟨⟨e,0,rfl,U.agg 0⟩,rfl,rfl,trivial⟩ (d _ U.gr)
 rw[aq b]at a;refine bD ?_;refine Ru.cond (λh=>absurd h b) (λh=>?_);refine bD ?_;refine RO.EN (adO T λg v l=>?_);have U:=U.fC l;obtain⟨w,i⟩:=U.get 2 rfl;refine⟨tB.cell (v:=aU s.op) i rfl,?_⟩;obtain⟨p,i,rfl⟩:=aho.1 a;have n:(yG p.2.nm).ee=true:=by unfold yG;split<;>rfl
 refine RO.adx U 0 (r:=some (p.1,wL p.2)) (by have:=I0 s.op sw 0 0;rw[i]at this;exact this) ?_;refine bD ?_;refine RO.iT U 1 (λf U=>?_);refine bD ?_;refine RO.eQ U 1 ?_;refine bD ?_;refine RO.iT U 1 (λf U=>?_);refine bD ?_;exact Ru.lM (vs:=[_,_]) ⟨⟨e,0,rfl,U.agg 1⟩,rfl,rfl,trivial⟩ (d _ U.gr)
section
def fT(g:G.bu)(c:AV)(a b:ab)(n:Nat)(s:List Bool):List Th:=[tB V9 a [.str g.name,aI g.params,aI g.bp,c,.slice b 0 n n true],tS 4 1 (s.map .bool) n true (.slice b 0 n n true)]
def ET:ai->Int->List AV->Prop:=λ_ v cs=>cs=[aI v]
theorem fZ.r{H:ai}{l:List Int}{d:AV}(h:fZ H l d):dV 1 ET H l d:=⟨_,h,λk e=>by simp[e,alt,aj9,ET]⟩
def m8(g:G.bu)(s:List Bool)(v:Int):Bool×List Bool:=
 if g.params<=v/\v<=g.bp - 1 then(if s.getD v.toNat false then(false,s)else(true,s.set v.toNat true))else(false,s)
structure FV(g:G.bu)(n:Nat):Prop where
 h0:0<=g.params
 h1:g.params<=g.bp
 h2:g.bp<=6000
 h3:(n:Int)=g.bp
section
variable{g:G.bu}{c:AV}{a b:ab}{n:Nat}{A H:ai}{us:List Th}
theorem adQ(T:Tb ac)(V:FV g n){s:List Bool}(U:aj A H (fT g c a b n s++us)){v:Int}{K:KT}(d:K (.bool (decide (0<=v/\v<=g.bp - 1))) H):YF ac (.func IA [.az a 0] []) [aI v] H K:=by obtain⟨h0,h1,h2,h3⟩:=V;refine YF.code T.acM aB ?_;refine au ?_;refine RO.nilCheck ?_;refine bD ?_;refine RO.sub (a:=g.bp) (b:=1) ?_;refine bD ?_;refine RO.cl (IY T ?_);refine bD ?_;exact Ru.aV d
theorem adR(T:Tb ac)(V:FV g n)(d:List Int):ri ac A (.func IA [.az a 0] []) ET false (fT g c a b n) (λs=>s.length=n) (λs v=>(decide (0<=v/\v<=g.bp - 1),s)) d:=by rintro s v cs H us _ e rfl U;exact adQ T V U ⟨rfl,e,[],by grind⟩
theorem I3(T:Tb ac)(V:FV g n){s:List Bool}(hs:s.length=n)(U:aj A H (fT g c a b n s++us)){v:Int}{K:KT}(d:∀H',aj A H' (fT g c a b n (m8 g s v).2++us)->K (.bool (m8 g s v).1) H'):YF ac (.func Ix [.az a 0] []) [aI v] H K:=by
 unfold m8 at d;obtain⟨h0,h1,h2,h3⟩:=V;refine YF.code T.acp aB ?_;refine au ?_;refine RO.nilCheck ?_;refine bD ?_;refine RO.nilCheck ?_;refine bD ?_;refine RO.sub (a:=g.bp) (b:=1) ?_;refine bD ?_;refine RO.cl (IY T ?_);by_cases hv:g.params<=v/\v<=g.bp - 1;·simp only[aK hv]at d;rw[decide_eq_true hv];obtain⟨k,rfl⟩:∃k:Nat,v=(k:Int):=⟨v.toNat,af⟩;have e:k<s.length:=af;simp only[aj3]at d;refine bD ?_;refine RO.nilCheck ?_;refine bD ?_;refine RO.fD U 1 ?_ (hv:=qR false e);refine bD ?_;cases hg:s.getD k false with|true=>simp only[hg,bq]at d;refine bD ?_;exact Ru.aV (d H U)|false=>simp only[hg,aes,bP]at d;refine bD ?_;refine RO.nilCheck ?_;refine bD ?_;refine RO.lC U 1 true hs (λH1 U=>?_);refine bD ?_;exact Ru.aV (d H1 U)
 simp only[aq hv]at d;rw[decide_eq_false hv];refine bD ?_;exact Ru.aV (d H U)
theorem adS(T:Tb ac)(V:FV g n)(d:List Int):ri ac A (.func Ix [.az a 0] []) ET false (fT g c a b n) (λs=>s.length=n) (m8 g) d:=by rintro s v cs H us _ e rfl U;refine I3 T V e U λH' f=>⟨rfl,?_,[],by grind⟩;grind[m8]
end
end
section
def I4:Nat->List Nat->Prop
 |0,t=>t=[]
 |1,t=>su t
 |_,t=>EO t
structure wM(g:G.bu)(x:G.ic)(r:qy):Prop where
 adT:yH x=some r
 args:r.EP<=x.args.length/\x.args.length<=r.EQ
 name:I4 r.nm x.name
 num:r.ER<=x.n/\x.n<=r.ES
 xx:x.m=0\/x.op=13/\x.m=1
 pF:∀a∈x.args,0<=a/\a<=g.bp - 1
 to:r.vq=false->x.to= -1
def ow(g:G.bu)(s:List Bool)(x:G.ic):Bool×List Bool:=
 match yH x with
 |some r=>if r.vq then m8 g s x.to else(true,s)
 |none=>(false,s)
theorem adU(T:Tb ac){H:ai}{k:Nat}{t:List Nat}(h:I4 k t){K:KT}(a:∀H',bm H H'->K (.bool true) H'):YF ac (yG k) [.str t] H K:=by match k,h with|0,h=>cases h;exact adB T (a _ (bm.refl H))|1,h=>exact IZ T h a|_+2,h=>exact adA T h a
theorem I5{e σ:Type}{p:e->Bool}:∀{la:List e}{s:σ},(∀a∈la,p a=true)->gW (λs a=>(p a,s)) s la=(true,s)|[],_,_=>rfl|a::l,s,h=>by simp only[gW,h a (aeU ..),bq];exact I5 λb hb=>h b (aey _ hb)
section
variable{g:G.bu}{d:AV}{c f:ab}{n:Nat}{A H:ai}{us:List Th}
theorem EU(T:Tb ac)(V:FV g n){s:List Bool}(hs:s.length=n){la:List Int}{b:AV}(j:fZ A la b)(hl:la.length<=1000000)(k:∀a∈la,0<=a/\a<=g.bp - 1)(U:aj A H (fT g d c f n s++us)){K:KT}(m:∀H' i,aj A H' (fT g d c f n s++i++us)->K (.bool true) H'):YN ac NZ [b,.func IA [.az c 0] []] H K:=by have e:=I5 (σ:=List Bool) (p:=λv=>decide (0<=v/\v<=g.bp - 1)) (la:=la) (s:=s) (λa h=>decide_eq_true (k a h));refine Ct T.Oy aB T.IT aB T.IU (size:=1) (agg:=false) aB (λ_=>rfl) rfl rfl rfl (IX T.Oz aB rfl (λa cs h=>by cases h;rfl) (adR T V la)) (λa cs h=>by cases h;rfl) (fZ.r j) hl hs U λH' i _ l=>?_;grind
set_option maxHeartbeats 1000000 in theorem adV(T:Tb ac)(V:FV g n){s:List Bool}(hs:s.length=n){x:G.ic}{cs:List AV}(j:qT A x cs){r:qy}(y:wM g x r)(hl:x.args.length<=1000000)(U:aj A H (fT g d c f n s++us)){K:KT}(a:∀H' b,aj A H' (fT g d c f n (ow g s x).2++b++us)->K (.bool (ow g s x).1) H'):YF ac (.func Iy [.az c 0] []) [.agg cs] H K:=by
 have v:=j.one;have l:=j;obtain⟨E,rfl,e⟩:=j;have⟨hd,_,_,F⟩:=e.all;obtain⟨h1,h2,h3,z,B,t,u⟩:=y;simp only[ow,h1]at a;have i:(yG r.nm).ee=true/\(yG r.nm).bB=true:=by unfold yG;split<;>exact⟨rfl,rfl⟩
 obtain⟨i,w⟩:=i;refine YF.code T.acr aB ?_;refine au ?_;refine RO.dL U λH1 q U=>?_;refine au ?_;refine RO.eQ U 0 ?_;refine au ?_;refine RO.cl (adP T (dQ.step U.gr l) h1 λI hg=>?_);have U:=U.cI hg;refine au ?_;refine RO.fx U (λJ L U=>?_);refine bD ?_;refine RO.cl (yE T (a:=r.EP) (b:=r.EQ) (n:=x.args.length) h2 ?_);refine bD ?_;refine RO.cl (adU T h3 λM hg=>?_);have U:=U.cI hg;refine bD ?_;refine RO.cl (yE T (a:=r.ER) (b:=r.ES) (n:=x.n) z ?_);refine bD ?_;refine RO.de (λ(h:x.m≠0)=>?_) (λ(h:¬x.m≠0)=>?_)
 .obtain⟨o,p⟩:=B.resolve_left h;refine bD ?_;refine RO.de (λk=>absurd o k) (λ_=>?_);refine bD ?_;refine RO.de (λk=>absurd p k) (λ_=>?_);refine bD ?_;refine RO.cl (EU T V hs e hl t (aj.gF (xs:=[_,_]) U) λC b U=>?_);have U:=aj.kO (xs:=[_,_]) U;refine bD ?_;refine Ru.kN (λhg=>?_) (λhg=>?_);·simp only[akU]at hg;simp only[hg,aes,bP]at a;refine bD ?_;refine Ru.aV ?_;rw[show decide (x.to= -Int.ofNat 1)=true from decide_eq_true (u hg)];exact a _ (b++[_,_]) (by have:=aj.gF (xs:=[_,_]) U;simpa using this)
  simp only[Bool.not_eq_false']at hg;simp only[hg,bq]at a;refine bD ?_;refine RO.cl (YF.oJ (I3 T V hs (us:=b++[_,_]++us) (by have:=aj.gF (xs:=[_,_]) U;simpa using this) λD U=>?_));refine bD ?_;exact Ru.aV (a _ (b++[_,_]) (by simpa using U))
 refine bD ?_;refine RO.cl (EU T V hs e hl t (aj.gF (xs:=[_,_]) U) λC b U=>?_);have U:=aj.kO (xs:=[_,_]) U;refine bD ?_;refine Ru.kN (λhg=>?_) (λhg=>?_);·simp only[akU]at hg;simp only[hg,aes,bP]at a;refine bD ?_;refine Ru.aV ?_;rw[show decide (x.to= -Int.ofNat 1)=true from decide_eq_true (u hg)];exact a _ (b++[_,_]) (by have:=aj.gF (xs:=[_,_]) U;simpa using this)
 simp only[Bool.not_eq_false']at hg;simp only[hg,bq]at a;refine bD ?_;refine RO.cl (YF.oJ (I3 T V hs (us:=b++[_,_]++us) (by have:=aj.gF (xs:=[_,_]) U;simpa using this) λD U=>?_));refine bD ?_;exact Ru.aV (a _ (b++[_,_]) (by simpa using U))
end
end
section
structure wN(g:G.bu)(e:G.Edge)(w:Nat):Prop where
 lo:1<=e.block
 hi:e.block<g.al.length
 aM:(g.al.getD e.block.toNat default).params.length=e.args.length+w
 pF:∀a∈e.args,0<=a/\a<=g.bp - 1
section
variable{g:G.bu}{b:AV}{c d:ab}{n:Nat}{A H:ai}{us:List Th}
theorem adW(T:Tb ac)(V:FV g n)(o:G.Sm g)(hb:dV 7 kj A g.al b){s:List Bool}(hs:s.length=n){e:G.Edge}{cs:List AV}(he:sa A e cs){w:Nat}(D:w<=1)(p:wN g e w)(hl:e.args.length<=1000000)(U:aj A H (fT g b c d n s++us)){K:KT}(r:∀H' i,aj A H' (fT g b c d n s++i++us)->K (.bool true) H'):YN ac XP [.az c 0,.agg cs,aN w] H K:=by have f:=he.one;obtain⟨E,rfl,a⟩:=he;have⟨hd,_,_,F⟩:=a.all;have⟨v,_,_,x⟩:=hb.all;obtain⟨h1,h2,h3,t⟩:=p;have y:=o.nb;obtain⟨k,u⟩:∃k:Nat,e.block=(k:Int):=⟨e.block.toNat,af⟩;rw[u]at h1 h2 h3 f⊢;have j:k<g.al.length:=af;rw[aj3,bF j]at h3;refine YF.code T.ac2 aB ?_;refine au ?_;refine RO.dL U λH1 q U=>?_;refine au ?_;refine RO.nilCheck ?_;refine bD ?_;refine RO.arith (v:=aN (g.al.length - 1)) ?_ (hv:=px af af);refine bD ?_;refine RO.cl (yE T (a:=1) (b:=(g.al.length - 1:Nat)) (n:=(k:Int)) af ?_);refine bD ?_;refine RO.nilCheck ?_;refine bD ?_;refine RO.cZ U.gr hb λI o1 c1 hj l z hat hrd=>?_;obtain⟨J,L,M,rfl,m,_,_⟩:=l;have⟨B,_,_,C⟩:=m.all;refine bD ?_;refine RO.de (λ_=>?_) (λh=>absurd h3 h);refine bD ?_;refine RO.cl (EU T V hs a hl t (aj.gF (xs:=[_]) U) λN i U=>?_);refine bD ?_;exact Ru.aV (r _ (i++[_]) (by simpa using U))
theorem adX(T:Tb ac)(V:FV g n)(y:G.Sm g)(hb:dV 7 kj A g.al b){s:List Bool}(hs:s.length=n){es:List G.Edge}{t f:AV}{a:List Nat}(k7:dV 2 sa A es t)(hl:es.length=a.length)(F:es.length<=1000)(z:∀w∈a,w<=1)(B:∀k(h:k<es.length),wN g es[k] (a[k]'af)/\es[k].args.length<=1000)(U:aj A H (fT g b c d n s++tS 3 1 (a.map aN) a.length true f::us)){K:KT}(C:∀H',aj A H' (fT g b c d n s++tS 3 1 (a.map aN) a.length true f::us)->K (.bool true) H'):YN ac N1 [.az c 0,t,f] H K:=by
 have⟨I,_,_,J⟩:=k7.all;have m:Sl H 1 (a.map aN) a.length f:=U.sl 2;have⟨L,_,_,N⟩:=m.all;refine YF.code T.acN aB ?_;refine au ?_;refine Ru.cond (λh=>absurd hl af) (λ_=>?_);refine au ?_;refine Ru.nm λS M D u=>?_;refine Ru.cC u (up (P:=λk=>∀l,aj A l (fT g b c d n s++tS 3 1 (a.map aN) a.length true f::us)->Ru ac _ S ([(bo,aN k)]++pk M [p0,p1,p2,bi,bk]) l) es.length (λk R E l U=>?_) 0 af _ U);subst D;subst u;refine Ru.loop ?_;refine au ?_;refine Ru.cond (λi=>?_) (λi=>?_);·obtain⟨o,O⟩:=B k i;refine au ?_;refine RO.cZ U.gr k7 λW o1 c1 hj e P hat hrd=>?_;have v:=e.one;have j:=e;obtain⟨X,rfl,p⟩:=e;have⟨hd,_,_,Y⟩:=p.all;refine bD ?_;refine RO.gI U λH1 q U=>?_;refine bD ?_;refine RO.iT U 0 (λZ U=>?_);refine bD ?_;refine RO.eQ U 0 ?_;refine au ?_;obtain⟨wq,x,Q,rfl⟩:=U.uT 3 rfl af;refine bD ?_;refine RO.fD U 3 ?_ (hv:=qR 0 (show k<a.length by omega));refine au ?_;have r:a.getD k 0=a[k]'af:=bF af 0;rw[r];refine RO.cl (adW T V y hb hs j (z _ (agB _)) o af (aj.gF (xs:=[_]) U) λH3 gs U=>?_);refine au ?_;exact Ru.wk (E (k+1) af af _ (aj.kO (xs:=[_]) U.skip).tail)
 refine Ru.exitTo ?_;refine au ?_;exact Ru.aV (C _ U)
end
end
section
theorem RO.Eh{c:Cx}{s:List SI}{L:Kn}{H:ai}{d:Option ab}{l:List be}{x y:aJ}{a b:List Nat}(h:RO ac c l s (bC L d (.bool (decide (a≠b)))) H)(e:bf L x=.str a:=by exact cw)(g:bf L y=.str b:=by exact cw):RO ac c (⟨d,.iE .neq x y,none,[],[]⟩::l) s L H:=RO.iE (v:=.bool (decide (a≠b))) h e rfl g rfl (by simp only[Ba,qv,decide_not])
structure ua(g:G.bu)(es:List G.Edge)(ws:List Nat):Prop where
 len:es.length=ws.length
 ok:∀k(h:k<es.length),wN g es[k] (ws[k]'af)/\es[k].args.length<=1000
def vr(k:Nat):Nat:=if k=2 then 1 else 0
def mH:List Nat->Nat
 |[]=>0
 |k::l=>(3 - k)+mH l
inductive adY(g:G.bu)(j:G.lD):Prop
 |go(h:j.op=61)(ha:j.args=[])(he:ua g j.go [0])
 |Cz(h:j.op=62)(ha:j.args.length=1)(he:ua g j.go [0,0])
 |is(h:j.op=63)(ha:j.args.length=1)(hn:su j.name)(he:ua g j.go [0,0])
 |gE(h:j.op=65)(ha:j.args.length=1)(he:ua g j.go [1,0])
 |AR(h:j.op=66)(hk:∀i(h:i<j.b9.length),1<=j.b9[i]/\j.b9[i]<=3/\(j.b9[i]=3->i+1=j.b9.length))(h1:1<=j.b9.length)(h4:j.b9.length<=4)(ha:j.args.length=mH j.b9)(he:ua g j.go (j.b9.map vr))
 |CB(h:j.op=67)(ha:j.args=[])(e0 e1 e2:G.Edge)(hg:j.go=[e0,e1,e2])(h0:wN g e0 0)(h1:wN g e1 1)(h3:e0.args=[]/\e1.args=[]/\e2.args=[])(hj:1<=e2.block/\e2.block<g.al.length)(hp:0<(g.al.getD e2.block.toNat default).params.length)
 |CC(h:j.op=68)(ha:0<j.args.length)(hg:j.go=[])
 |ret(h:j.op=69\/j.op=21)(ha:j.args.length=1)(hg:j.go=[])
 |stuck(h:j.op=70)(ha:j.args=[])(hg:j.go=[])
structure I6(g:G.bu)(j:G.lD):Prop where
 pF:∀a∈j.args,0<=a/\a<=g.bp - 1
 name:j.op=63↔j.name≠ []
 b9:j.op≠66->j.b9=[]
 aA:adY g j
section
variable{g:G.bu}{f:AV}{o p:ab}{n:Nat}{A H:ai}{us:List Th}
theorem AS(T:Tb ac)(V:FV g n)(j:G.Sm g)(hb:dV 7 kj A g.al f){s:List Bool}(hs:s.length=n){es:List G.Edge}{d e:AV}{ws:List Nat}(k7:dV 2 sa A es d)(a:es.length<=1000)(k:∀w∈ws,w<=1)(h:ua g es ws){i:List AV}{m:Nat}(b:i=ws.map aN)(l:m=ws.length)(U:aj A H (tS 3 1 i m true e::(fT g f o p n s++us))){K:KT}(q:∀H',aj A H' (fT g f o p n s++us)->K (.bool true) H'):YN ac N1 [.az o 0,d,e] H K:=by subst b;subst l;exact adX T V j hb hs k7 h.len a k h.ok (aj.gF (xs:=[_]) U) λH' c=>q H' (aj.kO (xs:=[_]) c).tail
theorem adZ(T:Tb ac)(V:FV g n)(C:G.Sm g)(hb:dV 7 kj A g.al f){s:List Bool}(hs:s.length=n){m e1 e2:G.Edge}{D:AV}(k7:dV 2 sa A [m,e1,e2] D)(h0:wN g m 0)(h1:wN g e1 1)(h3:m.args=[]/\e1.args=[]/\e2.args=[])(hj:1<=e2.block/\e2.block<g.al.length)(q:0<(g.al.getD e2.block.toNat default).params.length)(U:aj A H (fT g f o p n s++us)){K:KT}(J:∀H' ws,aj A H' (fT g f o p n s++ws++us)->K (.bool true) H'):YN ac XG [.az o 0,D] H K:=by
 have⟨N,_,_,O⟩:=k7.all;have⟨P,_,_,Q⟩:=hb.all;have R:=C.nb;obtain⟨c,d,r⟩:=h3;obtain⟨k,E⟩:∃k:Nat,e2.block=(k:Int):=⟨e2.block.toNat,af⟩;rw[E]at hj q;have t:k<g.al.length:=af;rw[aj3,bF t]at q;refine YF.code T.acP aB ?_;refine au ?_;refine RO.cZ U.gr k7 (λq1 o1 c1 S a W hat hrd=>?_) (hj:=by simp);have a:sa A e2 c1:=a;have l:=a.one;obtain⟨L,rfl,u⟩:=a;rw[E]at l hrd hat;have⟨X,_,_,e⟩:=u.all;have e:lenOf L=some 0:=by simpa[r]using e
 refine bD ?_;refine RO.fx U (λH2 q2 U=>?_);refine bD ?_;refine RO.V8 k7 (λY b=>?_) (b:=2) (hb:=by simp);have⟨F,_,_,I⟩:=b.all;refine RO.lf U 1 (λH6 q6 U=>?_);refine RO.cl (AS T V C hb hs b aB (ws:=[0,1]) bA ⟨rfl,λk h=>?_⟩ rfl rfl (U.cM (akO _ akj.symm)) λH7 U=>?_);·match k,h with|0,_=>exact⟨h0,by show m.args.length<=1000;rw[c];simp⟩|1,_=>exact⟨h1,by show e1.args.length<=1000;rw[d];simp⟩
 have U:=aj.wy U;refine au ?_;refine RO.cZ U.gr k7 (λq3 o3 c3 Z v ag hat hrd=>?_) (hj:=by simp);obtain⟨v0,rfl,w⟩:=v;have⟨ar,_,_,i⟩:=w.all;have i:lenOf v0=some 0:=by simpa[c]using i
 refine bD ?_;refine RO.cZ U.gr k7 (λq4 o4 c4 av x aw hat hrd=>?_) (hj:=by simp);obtain⟨M,rfl,y⟩:=x;have⟨ax,_,_,j⟩:=y.all;have j:lenOf M=some 0:=by simpa[d]using j
 refine ah ?_;refine RO.arith (v:=aN (g.al.length - 1)) ?_ (hv:=px af af);refine ah ?_;refine RO.cl (yE T (a:=1) (b:=(g.al.length - 1:Nat)) (n:=(k:Int)) af ?_);refine ah ?_;refine RO.cZ U.gr hb λq5 o5 c5 ay z a0 hat hrd=>?_;obtain⟨vp,vs,jc,rfl,B,_,_⟩:=z;have⟨a1,_,_,a2⟩:=B.all;refine ah ?_;refine Ru.aV ?_;rw[decide_eq_true q];exact J _ [_] (by rw[aj2];exact aj.gF (xs:=[_]) U)
theorem ad0(T:Tb ac)(V:FV g n)(Q:G.Sm g)(hb:dV 7 kj A g.al f){s:List Bool}(hs:s.length=n){j:G.lD}{cs:List AV}(hj:tw A j cs)(R:∀i(h:i<j.b9.length),1<=j.b9[i]/\j.b9[i]<=3/\(j.b9[i]=3->i+1=j.b9.length))(h1:1<=j.b9.length)(h4:j.b9.length<=4)(ha:j.args.length=mH j.b9)(he:ua g j.go (j.b9.map vr))(hl:j.args.length<=1000/\j.go.length<=1000)(U:aj A H (fT g f o p n s++us)){K:KT}(W:∀H' ws,aj A H' (fT g f o p n s++ws++us)->K (.bool true) H'):YN ac XF [.az o 0,.agg cs] H K:=by
 have P:=hj.one;obtain⟨X,Y,Z,rfl,E,t,u⟩:=hj;have⟨ag,_,_,ar⟩:=E.all;have⟨av,_,_,aw⟩:=t.all;have⟨ax,_,_,ay⟩:=u.all;refine YF.code T.acO aB ?_;refine au ?_;refine RO.dL U λH1 q U=>?_;refine au ?_;have U:=U.py 3 1;refine au ?_;refine RO.gU U 1 ?_;refine au ?_;refine Ru.nm λS M hS O=>?_;refine Ru.cC O (up (P:=λk=>∀y z a,a+mH (j.b9.drop k)=mH j.b9->aj A y (tS 3 1 (((j.b9.take k).map vr).map aN) k true z::tB tx q [aU j.op,X,.str j.name,Y,Z]::(fT g f o p n s++us))->Ru ac _ S ([(p5,z),(p6,aN a),(aX,aN k)]++pk M [p0,p3,aR,aY]) y) j.b9.length (λk a0 B y z a b U=>?_) 0 af _ _ 0 aB U);subst hS;subst O;have m:=(U.sl 0).bB;refine Ru.loop ?_;refine au ?_;refine Ru.cond (λl=>?_) (λl=>?_)
 .obtain⟨F,I,v⟩:=R k l;have N:=b;rw[aj9 l]at b;simp only[mH]at b;refine au ?_;refine RO.lg U.gr t λq1 o1 a1 J=>?_;have c:((j.b9.take (k+1)).map vr).map aN=((j.b9.take k).map vr).map aN++[aN (vr j.b9[k])]:=by rw[List.take_add_one,getElem?_pos j.b9 k l];simp only[Option.toList_some,akE,aj7,ali]
  have aA:∀C,C=a+(3 - j.b9[k])->C+mH (j.b9.drop (k+1))=mH j.b9:=λC e=>by omega
  generalize a2:j.b9[k]=D at F I v J c aA⊢;have x:D=1\/D=2\/D=3:=af;rcases x with rfl|rfl|rfl;·refine ah ?_;refine RO.push U 0 (λw r d U=>?_);have m:=(U.sl 0).bB;refine ah ?_;exact Ru.wk (B (k+1) af af r d (a+2) (aA _ rfl) (by rw[c];exact U))
  .refine ah ?_;refine RO.push U 0 (λw r d U=>?_);have m:=(U.sl 0).bB;refine ah ?_;exact Ru.wk (B (k+1) af af r d (a+1) (aA _ rfl) (by rw[c];exact U))
  refine ah ?_;refine RO.arith (v:=aN (j.b9.length - 1)) ?_ (hv:=px af af);refine ah ?_;refine Ru.cond (λ(h:k<j.b9.length - 1)=>absurd h (by have:=v rfl;omega)) (λ_=>?_);refine ah ?_;refine RO.push U 0 (λw r d U=>?_);have m:=(U.sl 0).bB;refine ah ?_;exact Ru.wk (B (k+1) af af r d a (aA _ rfl) (by rw[c];exact U))
 have L:k=j.b9.length:=af;subst L;rw[List.drop_length]at b;rw[ak7]at U;simp only[mH,alG]at b;refine Ru.exitTo ?_;refine ah ?_;refine RO.cl (yE T (a:=1) (b:=4) (n:=j.b9.length) af ?_);refine ah ?_;refine RO.de (λ_=>?_) (λh=>absurd (show j.args.length=a by omega) h);refine ah ?_;refine RO.cl (AS T V Q hb hs u af (ws:=j.b9.map vr) (λw hw=>?_) he rfl aB (U.cM (akO _ akj.symm)) λH7 U=>?_);·obtain⟨k,_,rfl⟩:=akk.1 hw;unfold vr;split<;>omega
 refine ah ?_;exact Ru.aV (W _ [_] (by simpa using U))
end
end
section
section
variable{g:G.bu}{a:AV}{b c:ab}{n:Nat}{A H:ai}{us:List Th}
set_option maxHeartbeats 2000000 in theorem ad1(T:Tb ac)(V:FV g n)(l:G.Sm g)(hb:dV 7 kj A g.al a){s:List Bool}(hs:s.length=n){j:G.lD}{cs:List AV}(hj:tw A j cs)(N:I6 g j)(hl:j.args.length<=1000/\j.go.length<=1000/\j.b9.length<=1000)(U:aj A H (fT g a b c n s++us)){K:KT}(f:∀H' ws,aj A H' (fT g a b c n s++ws++us)->K (.bool true) H'):YN ac Xu [.az b 0,.agg cs] H K:=by
 have u:=hj.one;have o:=hj;obtain⟨X,Y,Z,rfl,i,p,e⟩:=hj;have⟨P,_,_,y⟩:=i.all;have⟨Q,_,_,z⟩:=p.all;have⟨R,_,_,B⟩:=e.all;obtain⟨h1,h2,h3,M⟩:=N;obtain⟨r,t,C⟩:=hl;obtain⟨op,args,name,b9,go⟩:=j;simp only at u o i p e y z B h1 h2 h3 r t C⊢;refine YF.code T.acs aB ?_;refine au ?_;refine RO.dL U λH1 q U=>?_;refine bD ?_;refine RO.cl (EU T V hs i af h1 (aj.gF (xs:=[_]) U) λH5 ws U=>?_);have U:=aj.kO (xs:=[_]) U.skip;refine au ?_;refine RO.gU U 0 ?_;refine au ?_;refine RO.gU U 0 ?_;refine RO.tm ?_;refine RO.Eh ?_;refine RO.tm ?_;refine RO.eq (t:=true) ?_ (ht:=by simp[eA,h2]);refine bD ?_;refine RO.de (λ(h:op≠66)=>?_) (λ(h:¬op≠66)=>?_)
 .have D:=h3 h;subst D;refine bD ?_;cases M with
  |go e1 e2 d=>simp only at e1 e2 d;subst e1;subst e2;refine bD ?_;refine RO.lf U 1 (λv x U=>?_);refine bD ?_;refine RO.cl (AS T V l hb hs e af (ws:=[0]) bA d rfl rfl (U.cM (akO _ akj.symm)) λm U=>?_);refine bD ?_;exact Ru.aV (f _ [_] (by simpa using U))
  |Cz e1 e2 d=>simp only at e1 e2 d;subst e1;rw[e2];refine bD ?_;refine RO.lf U 1 (λv x U=>?_);refine bD ?_;refine RO.cl (AS T V l hb hs e af (ws:=[0,0]) bA d rfl rfl (U.cM (akO _ akj.symm)) λm U=>?_);refine bD ?_;exact Ru.aV (f _ [_] (by simpa using U))
  |is e1 e2 d w=>simp only at e1 e2 d w;subst e1;rw[e2];refine bD ?_;refine RO.cl (IZ T d λv hg=>?_);have U:=U.cI hg;refine bD ?_;refine RO.lf U 1 (λv x U=>?_);refine bD ?_;refine RO.cl (AS T V l hb hs e af (ws:=[0,0]) bA w rfl rfl (U.cM (akO _ akj.symm)) λm U=>?_);refine bD ?_;exact Ru.aV (f _ [_] (by simpa using U))
  |gE e1 e2 d=>simp only at e1 e2 d;subst e1;rw[e2];refine bD ?_;refine RO.lf U 1 (λv x U=>?_);refine bD ?_;refine RO.cl (AS T V l hb hs e af (ws:=[1,0]) bA d rfl rfl (U.cM (akO _ akj.symm)) λm U=>?_);refine bD ?_;exact Ru.aV (f _ [_] (by simpa using U))
  |AR e1=>exact absurd e1 h
  |CB e1 e2 e0 S W hg h0 E F I J=>simp only at e1 e2 hg;subst e1;subst e2;subst hg;refine bD ?_;refine RO.cl (adZ T V l hb hs e h0 E F I J (aj.gF (xs:=[_]) U) λm k U=>?_);refine bD ?_;exact Ru.aV (f _ (k++[_]) (by simpa using U))
  |CC e1 e2 d=>simp only at e1 e2 d;subst e1;subst d;refine bD ?_;refine RO.de (λ_=>?_) (λh=>absurd e2 h);refine bD ?_;exact Ru.aV (f _ [_] (by simpa using aj.gF (xs:=[_]) U))
  |ret e1 e2 d=>
   simp only at e1 e2 d;subst d;rw[e2];rcases e1 with rfl|rfl;·refine bD ?_;exact Ru.aV (f _ [_] (by simpa using aj.gF (xs:=[_]) U))
   refine bD ?_;exact Ru.aV (f _ [_] (by simpa using aj.gF (xs:=[_]) U))
  |stuck e1 e2 d=>simp only at e1 e2 d;subst e1;subst e2;subst d;refine bD ?_;exact Ru.aV (f _ [_] (by simpa using aj.gF (xs:=[_]) U))
 have L:op=66:=Classical.not_not.1 h;subst L;refine bD ?_;cases M with|AR e1 O e2 d w he=>refine RO.eQ U 0 ?_;refine RO.cl (ad0 T V l hb hs o O e2 d w he ⟨r,t⟩ (aj.gF (xs:=[_]) U) λm k U=>?_);refine bD ?_;exact Ru.aV (f _ (k++[_]) (by simpa using U))|ret e1=>simp at e1|_ e1=>simp at e1
end
end
section
def ub(g:G.bu)(s:List Bool)(b:G.gV):Bool×List Bool:=
 ((gW (m8 g) s b.params).1&&(gW (ow g) (gW (m8 g) s b.params).2 b.aD).1,(gW (ow g) (gW (m8 g) s b.params).2 b.aD).2)
structure I7(g:G.bu)(n:Nat):Prop where
 fv:FV g n
 name:su g.name
 ne:0<g.al.length
 first:(g.al.getD 0 default).params=[]
 aD:∀b∈g.al,∀x∈b.aD,∃r,wM g x r
 CD:∀b∈g.al,I6 g b.aA
 vq:(gW (ub g) (ahr n false) g.al).1=true
 all:∀k(h:k<(gW (ub g) (ahr n false) g.al).2.length),g.params<=k->(gW (ub g) (ahr n false) g.al).2[k]=true
section
variable{g:G.bu}{d:AV}{c f:ab}{n:Nat}{A H:ai}{us:List Th}
theorem ad4(g:G.bu)(s:List Bool)(x:G.ic):(ow g s x).2.length=s.length:=by
 unfold ow;split
 .split;·unfold m8;split<;>(try split)<;>simp
  rfl
 rfl
theorem ad5(T:Tb ac)(V:FV g n)(a:List G.ic)(h:∀x∈a,∃r,wM g x r)(hl:∀x∈a,x.args.length<=1000):ri ac A (.func Iy [.az c 0] []) qT true (fT g d c f n) (λs=>s.length=n) (ow g) a:=by rintro s x cs H us i j k U;obtain⟨r,h1⟩:=h x i;have:=adV (K:=λv H'=>v=.bool (ow g s x).1/\(ow g s x).2.length=n/\∃b,aj A H' (fT g d c f n (ow g s x).2++b++us)) T V j k h1 (by have:=hl x i;omega) U λH' b e=>⟨rfl,by rw[ad4];exact j,b,e⟩;exact this
theorem ad6(T:Tb ac){H:ai}{b:Bool}{K:KT}(a:K (.bool b) H):YN ac Iz [.bool b] H K:=by refine YF.code T.acu aB ?_;refine au ?_;exact Ru.aV a
def I8:ai->Bool->List AV->Prop:=λ_ v cs=>cs=[.bool v]
theorem ad7(T:Tb ac){H:ai}{b:List Bool}{g:AV}(j:Sl H 1 (b.map .bool) b.length g)(hl:b.length<=1000000)(l:∀a∈b,a=true){K:KT}(m:∀H',bm H H'->K (.bool true) H'):YN ac Xv [g,.func Iz [] []] H K:=by
 have n:ri ac H (.func Iz [] []) I8 false (λ_:Unit=>[]) (λ_=>True) (λs v=>(v,s)) b:=by rintro s a cs H' us _ _ rfl U;exact ad6 T ⟨rfl,trivial,[],by simpa using U⟩
 have e:gW (λ(s:Unit)(v:Bool)=>(v,s)) () b=(true,()):=I5 (p:=λv=>v) l;have o:dV 1 I8 H b g:=⟨_,j,λk p=>by rw[alt,aj9 (by simpa using p)];simp[I8]⟩;refine Ct T.act bA T.acQ bA T.ac3 (size:=1) (agg:=false) bA (λ_=>rfl) (T:=λ_:Unit=>[]) (s:=()) (us:=[]) rfl rfl rfl (IX T.acR bA rfl (λa cs h=>by cases h;rfl) n) (λa cs h=>by cases h;rfl) o hl trivial (aj.dc H) λH' q _ i=>?_;rw[e];exact m H' i.gr
theorem ad8(T:Tb ac)(V:FV g n){s:List Bool}(hs:s.length=n){b:List G.ic}{j:AV}(k:dV 6 qT A b j)(hl:b.length<=1000000)(h:∀x∈b,∃r,wM g x r)(e:∀x∈b,x.args.length<=1000)(U:aj A H (fT g d c f n s++us)){K:KT}(l:∀H',(gW (ow g) s b).2.length=n->aj A H' (fT g d c f n (gW (ow g) s b).2++us)->K (.bool (gW (ow g) s b).1) H'):YN ac Xt [j,.func Iy [.az c 0] []] H K:=by refine Ct T.acq bA T.acJ bA T.acX (size:=6) (agg:=true) bA (λh=>by cases h) rfl rfl rfl (OE T.acK bA rfl (λa cs h=>⟨by obtain⟨v,rfl,_⟩:=h;rfl,h.one⟩) (ad5 T V b h e)) (λa cs h=>rfl) k hl hs U λH' o m i=>l H' m i.skip
theorem ad9(T:Tb ac)(V:FV g n){s:List Bool}(hs:s.length=n){b:List Int}{i:AV}(j:fZ A b i)(hl:b.length<=1000000)(U:aj A H (fT g d c f n s++us)){K:KT}(k:∀H',(gW (m8 g) s b).2.length=n->aj A H' (fT g d c f n (gW (m8 g) s b).2++us)->K (.bool (gW (m8 g) s b).1) H'):YN ac NZ [i,.func Ix [.az c 0] []] H K:=by refine Ct T.Oy bA T.IT bA T.IU (size:=1) (agg:=false) bA (λ_=>rfl) rfl rfl rfl (IX T.Oz bA rfl (λa cs h=>by cases h;rfl) (adS T V b)) (λa cs h=>by cases h;rfl) (fZ.r j) hl hs U λH' m l e=>k H' l e.skip
theorem aea{e b:Type}{st:b->e->Bool×b}:∀{a:List e}{s:b}{k:Nat}(g:k<a.length){r:Bool×b},gW st s (a.drop k)=r->r.1=true->(st s a[k]).1=true/\gW st (st s a[k]).2 (a.drop (k+1))=r:=by
 intro a s k g r h i;rw[aj9 g]at h;simp only[gW]at h;split at h;·rename_i h1;exact⟨h1,h⟩
 rw[<-h]at i;cases i
set_option maxHeartbeats 1000000 in theorem aeb(T:Tb ac){H:ai}(X:I7 g n)(C:G.Sm g){cs:List AV}(hg:iG H g cs){K:KT}(Y:∀H',bm H H'->K (.bool true) H'):YN ac Xk [.agg cs] H K:=by
 have z:=hg.one;obtain⟨d,rfl,cA⟩:=hg;have⟨hd,_,_,hn⟩:=cA.all;obtain⟨V,Z,p,r,eh,A,F,eZ⟩:=X;have E:=V;obtain⟨v0,v1,v2,P⟩:=V;have ag:=C.nb;refine YF.code T.acb aB ?_;refine au ?_;refine RO.dL (aj.dc H) λH1 q U=>?_;refine bD ?_;refine RO.cl (IZ T Z λH2 hg=>?_);have U:=U.cI hg;refine ah ?_;refine RO.cl (yE T (a:=0) (b:=g.bp) (n:=g.params) ⟨v0,v1⟩ ?_);refine ah ?_;refine RO.de (λ(h:g.al.length=0)=>by omega) (λ_=>?_);refine ah ?_;refine RO.cZ U.gr cA (λq1 o1 c1 hj b I hat hrd=>?_) (hj:=p);obtain⟨Q,vs,jc,rfl,e,_,_⟩:=b;have⟨J,_,_,j⟩:=e.all;rw[bF p]at r;have j:lenOf Q=some 0:=by simpa[r]using j
 refine ah ?_;refine RO.eQ U 0 ?_;refine ah ?_;refine RO.oT U (n:=n) (λH3 f U=>?_) (hx:=by show aI g.bp=_;rw[<-P];rfl) (hy:=by show aI g.bp=_;rw[<-P];rfl) (hz:=by rw[iZ];simp);have er:fO [AV.bool false] n=(ahr n false).map .bool:=by rw[iZ,alz]
 rw[er]at U;refine ah ?_;refine RO.dL U (λH4 c U=>?_) (v:=.agg [.str g.name,aI g.params,aI g.bp,d,.slice f 0 n n true]);refine ah ?_;refine Ru.nm λS M hS R=>?_;refine Ru.cC R (up (P:=λk=>∀D s,gW (ub g) s (g.al.drop k)=gW (ub g) (ahr n false) g.al->s.length=n->aj H D (fT g d c f n s++[tB fI q [.str g.name,aI g.params,aI g.bp,d]])->Ru ac _ S ([(da,aN k)]++pk M [p1,p3,dw,dg]) D) g.al.length (λk W ih D s hs t U=>?_) 0 af _ _ rfl aB U);subst hS;subst R;refine Ru.loop ?_;refine au ?_;refine Ru.cond (λl=>?_) (λl=>?_);·obtain⟨b,hs⟩:=aea l hs F;have o:=agB l;simp only[ub,aj6]at b hs;have ar:=C.bl _ o;refine au ?_;refine RO.cZ U.gr cA (λq1 o1 c1 hj u I hat hrd=>?_);have z:=u.one;obtain⟨Q,vs,jc,rfl,e,v,w⟩:=u;have B:=w;obtain⟨va,vk,vg,rfl,av,aw,ax⟩:=w;have⟨J,_,_,j⟩:=e.all;have⟨L,_,_,ay⟩:=v.all;refine bD ?_;refine RO.fx U (λH5 q5 U=>?_);refine bD ?_;refine RO.cl (ad9 T E t e af (aj.gF (xs:=[_]) U) λH6 N U=>?_);have U:=aj.kO (xs:=[_]) U;rw[b.1];refine bD ?_;refine RO.cl (ad8 T E N v af (eh _ o) (λx hx=>by have:=(C.st _ o x hx).1;omega) (aj.gF (xs:=[_]) U) λH7 y U=>?_);have U:=aj.kO (xs:=[_]) U;rw[b.2];refine bD ?_;refine RO.eQ U 0 ?_;refine RO.tm ?_;refine RO.cl (ad1 T E C cA y B (A _ o) ⟨af,af,af⟩ (aj.gF (xs:=[_]) U) λH8 ws U=>?_);have U:=(aj.kO (xs:=[_]) U.skip).tail;refine bD ?_;exact Ru.wk (ih (k+1) af af _ _ hs y U)
 have O:k=g.al.length:=af;subst O;rw[List.drop_length]at hs;refine Ru.exitTo ?_;refine ah ?_;obtain⟨m,o⟩:∃m:Nat,g.params=(m:Int):=⟨g.params.toNat,af⟩;refine RO.V7 (U.sl 1) (λsv i=>?_) (b:=m) (hy:=by show aI g.params=_;rw[o];rfl);have L:=i.bB;have i:Sl D 1 ((s.drop m).map .bool) (s.drop m).length sv:=by rw[alC,t,List.map_drop];simpa using i
 refine RO.cl (ad7 T i (by rw[alC];omega) (λa ha=>?_) λH9 hg=>?_);·simp only[gW]at hs;rw[<-hs]at eZ;obtain⟨k,W,rfl⟩:=aka ha;rw[List.getElem_drop];rw[alC]at W;exact eZ (m+k) (by simp only;omega) af
 refine ah ?_;exact Ru.aV (Y _ (U.gr.trans hg))
end
end
end
end Go.am.R
namespace Go.am
section
variable{ac:Nat->aG}{c:Cx}{s:List SI}{L:Kn}{H A:ai}{d:Option ab}{l:List be}{ts:List Th}{q:ab}{e n:Nat}
end
section
variable{ac:Nat->aG}
section
def Body(ac:Nat->aG)(A:ai)(y:AV)(m:Nat)(E:Nat->List AV->List Th->Prop)(J:Nat->List Th->Prop)(D:List Th->Prop):Prop:=
 ∀k args b c us H,k<m->E k args b->J k c->aj A H (b++c++us)->YF ac y args H λv H'=>∃a,aj A H' (a++us)/\(v=.bool true/\J (k+1) a\/v=.bool false/\D a)
def yI(ac:Nat->aG)(A:ai)(fv:AV)(m:Nat)(E:Nat->List AV->List Th->Prop)(c:List Th)(d Kp:ai->Prop):Prop:=
 ∀y J D b us H(K:KT),y.bB=true->y.ee=true->y.cells=[y]->(∀k b us H,J k b->aj A H (b++us)->Kp H)->Body ac A y m E J D->J 0 b->aj A H (c++b++us)->d H->(∀H' a v,aj A H' (a++us)->(J m a\/D a)->K v H')->YF ac fv [y] H K
def AT:List ab->List AV->Kn->Kn
 |p::a,v::b,L=>AT a b ((p,v)::L)
 |_,_,L=>L
theorem Le.pr:∀{a:List ab}{b:List AV}{L:Kn}{aa:ap AV},Le L aa->Le (AT a b L) (ph a b aa)|[],_,_,_,h=>by trivial|p::a,[],_,_,h=>by trivial|p::a,v::b,L,aa,h=>by simp only[AT,ph];exact Le.pr (h.set (some p) v)
def yJ(A:ai)(l:ab)(o2:cq)(us:List Th)(J:List Th->Prop)(Dn:cP->List Th->Prop)(j:cP)(_:Fr)(H':ai):Prop:=
 ∃a,aj A H' (a++tX l o2::us)/\match j with
  |.none=>J a
  |j=>Dn j a
def OJ(ac:Nat->aG)(l:ab)(o1 o2:cq)(body:bt)(K:cP->Fr->ai->Prop)(j:cP)(fr:Fr)(H1:ai):Prop:=
 j=.none/\H1.get l=o1/\∃n,Xc ac n body fr (H1.set l o2) K
abbrev CE(A:ai)(l:ab)(o2:cq)(us:List Th)(J:List Th->Prop)(Dn:cP->List Th->Prop):Cx:=⟨yJ A l o2 us J Dn,[],some l⟩
abbrev EV(ac:Nat->aG)(l:ab)(o1 o2:cq)(body:bt)(K:cP->Fr->ai->Prop):Cx:=⟨OJ ac l o1 o2 body K,[],some l⟩
variable{A H:ai}{l:ab}{o1 o2:cq}{us xs:List Th}{J:List Th->Prop}{Dn:cP->List Th->Prop}{L:Kn}{body:bt}
theorem Ru.dN(U:aj A H (xs++tX l o1::us))(h:∀b,aj A b (xs++tX l o2::us)->Ru ac (CE A l o2 us J Dn) [.code body] L b):Ru ac (EV ac l o1 o2 body (yJ A l o2 us J Dn)) [] L H:=λaa a=>by have hi:(xs++tX l o1::us)[xs.length]?=some (tX l o1):=aB;have h2:=U.tV xs.length hi o2;have e:(xs++tX l o1::us).set xs.length (tX l o2)=xs++tX l o2::us:=aB;rw[e]at h2;obtain⟨n,c⟩:=h _ h2 aa a;exact⟨rfl,U.rj xs.length hi,n,c.mono (afb _) λ_ _ _ h=>h⟩
theorem Ru.bG{ts:List Th}(U:aj A H (ts++tX l o2::us))(a:J ts):Ru ac (CE A l o2 us J Dn) [] L H:=λ_ _=>⟨ts,U,a⟩
theorem RJ.bG{ts:List Th}{j:cP}(U:aj A H (ts++tX l o2::us))(hj:j≠.none)(a:Dn j ts):RJ ac (CE A l o2 us J Dn) j [] L H:=λ_ _=>⟨ts,U,by grind⟩
theorem Ru.OL{ts:List Th}{s:List SI}(U:aj A H (ts++tX l o2::us))(a:Dn .ret ts):Ru ac (CE A l o2 us J Dn) (.code .ret::s) L H:=Ru.ret (RJ.wp (RJ.bG U aB a))
theorem OM{a b:Th}{d c us:List Th}:(a::b::(d++c++us)).Perm (d++(a::c)++(b::us)):=by have h1:(d++(a::c)++(b::us)).Perm (b::(d++(a::c)++us)):=akj;have h2:(d++(a::c)++us).Perm (a::(d++c++us)):=(akj (l₁:=d)).append_right us;exact((h1.trans (h2.cons b)).trans (akS a b _)).symm
theorem I9{a:Th}{ws b us:List Th}:(ws++(a::b)++us).Perm (ws++b++a::us):=by have h1:(ws++b++a::us).Perm (a::(ws++b++us)):=akj;have h2:(ws++(a::b)++us).Perm (a::(ws++b++us)):=(akj (l₁:=ws)).append_right us;exact h2.trans h1.symm
theorem ON{aa:ap AV}{b:List ab}{dN body:bt}{c:ab}{args:List AV}{Q:KT}(d:H.get l=.loop .ready .none 0 aa b dN body c)(e:args.length=b.length)(f:kh ac (OJ ac l (.loop .ready .none 0 aa b dN body c) (.loop .busy .none 0 aa b dN body c) body (yJ A l (.loop .busy .none 0 aa b dN body c) us J Dn)) [.code dN] .none ⟨ph b args aa,[],some l⟩ H)(q:∀H' a,aj A H' (a++tX l (.loop .busy .none 0 aa b dN body c)::us)->J a->Q (.bool true) (H'.set l (.loop .ready .none 0 aa b dN body c)))(hd:∀j H' a,j≠.none->aj A H' (a++tX l (.loop .busy .none 0 aa b dN body c)::us)->Dn j a->Q (.bool false) (H'.set l (.loop .done j 0 aa b dN body c))):YF ac (.yield l) args H Q:=by obtain⟨g,i⟩:=f;obtain⟨m,o⟩:=(Ad ac g).exec (K:=λm j fr H1=>j=.none/\H1.get l=.loop .ready .none 0 aa b dN body c/\Xc ac m body fr (H1.set l (.loop .busy .none 0 aa b dN body c)) (yJ A l (.loop .busy .none 0 aa b dN body c) us J Dn)) (λm r j fr H n h=>⟨h.1,h.2.1,h.2.2.mono n λ_ _ _ h=>h⟩) ((mono ac g).exec (afb _) (λj fr H h=>by obtain⟨h1,h2,k,h3⟩:=h;grind) i);refine⟨max g m+1,?_⟩;simp only[Xf,io,d,aK e];refine(show Xc ac g dN _ H _ from o).mono (Nat.le_max_left ..) λj fr H1 h=>?_;obtain⟨rfl,h2,h3⟩:=h;simp only[h2];refine h3.mono (Nat.le_max_right ..) λj _ H' h=>?_;obtain⟨a,p,s⟩:=h;have t:H'.get l=.loop .busy .none 0 aa b dN body c:=p.rj a.length aB;grind
theorem Ru.pG{K:cP->Fr->ai->Prop}{M:List ab}{s:List SI}{f:aJ}{b:List ab}{dN body:bt}{fv:AV}{m:Nat}{E:Nat->List AV->List Th->Prop}{R p:List Th}{S Kp:ai->Prop}{J:Nat->List Th->Prop}{Dn:cP->List Th->Prop}(U:aj A H (R++p++us))(V:yI ac A fv m E R S Kp)(W:∀F,bm H F->S F)(X:J 0 p)(Y:∀k args o,E k args o->args.length=b.length)(G:∀k c us H,J k c->aj A H (c++us)->Kp H)(Z:∀k args o c us l o1 o2 H,k<m->E k args o->J k c->aj A H (o++c++tX l o1::us)->Ru ac (EV ac l o1 o2 body (yJ A l o2 us (J (k+1)) Dn)) [.code dN] (AT b args L) H)(z:∀H' a u,J m a->aj A H' (a++tX u (.deferred false)::us)->Ru ac ⟨K,u::M,none⟩ s L H')(B:∀j H' a u,j≠.none->Dn j a->aj A H' (a++tX u (.deferred false)::us)->RJ ac ⟨K,u::M,none⟩ j s L H')(hf:bf L f=fv:=by exact cw)(I:fv.bB=true:=by first|rfl|assumption):Ru ac ⟨K,M,none⟩ (.code (.rangeFunc f b dN body)::s) L H:=by
 intro aa i;have N:=U.AQ (.deferred false);have q:=N.AQ (.loop .ready .none 0 aa b dN body H.next);have r:=q.cM OM;have w:bm H ((H.new (.deferred false)).new (.loop .ready .none 0 aa b dN body H.next)):=(bm.new H _).trans (bm.new _ _);generalize hl:(H.new (.deferred false)).next=l at q r;generalize O:((H.new (.deferred false)).new (.loop .ready .none 0 aa b dN body H.next))=F at q r w;have key:=V (.yield l) (λk a=>∃c,a=tX l (.loop .ready .none 0 aa b dN body H.next)::c/\J k c) (λa=>∃c j,j≠.none/\a=tX l (.loop .done j 0 aa b dN body H.next)::c/\Dn j c) _ _ F (λ_ H'=>match H'.get l with
  |.loop st cB fn C b aw bd d=>match st with|.busy=>False|_=>kh ac K s cB ⟨aa,H.next::M,none⟩ (H'.set l (.loop .exhausted cB fn C b aw bd d))
  |_=>False) rfl rfl rfl (by rintro k _ g H'⟨c,rfl,t⟩P;exact G k c _ H' t P.Ej) ?_ ⟨p,rfl,X⟩ r (W _ w) ?_;·obtain⟨n,hn⟩:=key;refine⟨n+1,?_⟩;simp only[Xc,exec];rw[hl,O,i.gv hf I];exact hn
 .rintro k args o _ g T hk x⟨c,rfl,t⟩h;have y:=h.cM I9;have e:T.get l=.loop .ready .none 0 aa b dN body H.next:=y.rj (o++c).length aB;have D:=Z k args o c g l _ (.loop .busy .none 0 aa b dN body H.next) T hk x t y (ph b args aa) i.pr;refine ON e (Y _ _ _ x) D (λH' a h1 h2=>⟨tX l _::a,?_,.inl ⟨rfl,a,rfl,h2⟩⟩) (λj H' a hj h1 h2=>⟨tX l _::a,?_,.inr ⟨rfl,a,j,hj,rfl,h2⟩⟩);·have:=h1.tV (q:=l) (o:=.loop .busy .none 0 aa b dN body H.next) a.length aB (.loop .ready .none 0 aa b dN body H.next);rw[show(a++tX l (.loop .busy .none 0 aa b dN body H.next)::g).set a.length (tX l (.loop .ready .none 0 aa b dN body H.next))=a++tX l (.loop .ready .none 0 aa b dN body H.next)::g by simp]at this;exact this.wy
  have:=h1.tV (q:=l) (o:=.loop .busy .none 0 aa b dN body H.next) a.length aB (.loop .done j 0 aa b dN body H.next);rw[show(a++tX l (.loop .busy .none 0 aa b dN body H.next)::g).set a.length (tX l (.loop .done j 0 aa b dN body H.next))=a++tX l (.loop .done j 0 aa b dN body H.next)::g by simp]at this;exact this.wy
 rintro H' _ v h(⟨c,rfl,Q⟩|⟨c,j,hj,rfl,hD⟩);·have e:=h.rj 0 rfl;simp only[e];exact z _ c _ Q (h.tV 0 rfl _).tail aa i
 have e:=h.rj 0 rfl;simp only[e];exact B j _ c _ hj hD (h.tV 0 rfl _).tail aa i
end
section
def tR(size:Nat)(vs:List AV)(n:Nat)(v:AV):Th where
 P H b:=Sl H size vs n v/\(∀i o m c e,v=.slice i o m c e->i∈b)/\∀j∈b,j.an<H.next.an
 fr:=by
  rintro H H' b⟨h1,h2,h3⟩f hg
  refine⟨?_,h2,λj hj=>ako (h3 j hj) f⟩
  rcases h1 with h|⟨i,o,cap,ex,c,m,e,d,aM,fz,g,k,a⟩
  .exact .inl h
  .exact .inr ⟨i,o,cap,ex,c,m,e,d,aM,fz,g,by rw[hg i (h2 _ _ _ _ _ g)];exact k,a.1,a.2.1,a.2.2.1,ako a.2.2.2.1 f,a.2.2.2.2⟩
 lt h:=h.2.2
def tZ(F:List Th):Th where
 P H a:=(∀t∈F,∃f,(∀j∈f,j∈a)/\t.P H f)/\∀j∈a,j.an<H.next.an
 fr:=by
  rintro H H' a⟨h1,h2⟩b hg
  refine⟨λt d=>?_,λj hj=>ako (h2 j hj) b⟩
  obtain⟨f,c,e⟩:=h1 t d
  exact⟨f,c,t.fr e b λj hj=>hg j (c j hj)⟩
 lt h:=h.2
variable{A H H':ai}{ts us:List Th}{F:List Th}{t t':Th}{i j e size n o m:Nat}{vs ws:List AV}{v w:AV}{full:Bool}{q r:ab}
theorem aj.rl(U:aj A H ts):aj A H (tZ []::ts):=by have h0:(tZ []).P H []:=⟨λt h=>absurd h aB,λj h=>absurd h aB⟩;exact U.push (bm.refl H) h0 λj h=>absurd h aB
theorem aj.lq(U:aj A H (t::tZ F::ts)):aj A H (tZ (t::F)::ts):=by
 obtain⟨b,fs,c⟩:=U;match fs,c with
  |d::e::fs,⟨h1,h2,h3,a,g,k,i⟩=>
   refine⟨b,(d++e)::fs,⟨λu hu=>?_,λj hj=>?_⟩,λj hj=>?_,λj hj f l=>?_,i⟩
   .rcases aeV.1 hu with rfl|hu;·grind
    obtain⟨f,m,n⟩:=a.1 u hu;grind
   .rcases ahp.1 hj with h|h;·exact t.lt h1 j h
    exact a.2 j h
   .rcases ahp.1 hj with h|h;·exact h2 j h
    exact g j h
   grind
theorem aj.mf(U:aj A H ts)(i:Nat)(hi:ts[i]?=some (tZ F))(a:t∈F):∃f,t.P H f:=by obtain⟨c,b⟩:=U.get i hi;obtain⟨f,_,h⟩:=b.1 t a;grind
theorem aj.OO(U:aj A H (tZ F::ts))(b:t∈F)(h:∀f,t.P H f->t'.P H f):aj A H (tZ (t'::F)::ts):=by
 refine U.as 0 rfl λc a=>⟨λu hu=>?_,a.2⟩;rcases aeV.1 hu with rfl|hu;·obtain⟨f,d,e⟩:=a.1 t b;grind
 exact a.1 u hu
theorem tS.mg{a:List ab}(h:(tS e size vs n full v).P H a):(tR size vs n v).P H a:=by refine⟨dU.sl h,λi o m c ex d=>?_,dU.below h⟩;rcases h with⟨_,_,_,h⟩|⟨f,g,aM,cap,b,rfl,h2,_⟩;all_goals grind
theorem Fs.mC:∀{fs:List (List ab)}{ts:List Th}{i j:Nat},Fs A H fs ts->ts[i]?=some t->ts[j]?=some t'->i<j->∃f g,t.P H f/\t'.P H g/\∀p∈f,p∉g|[],[],i,_,_,h,_,_=>by grind|[],_::_,_,_,h,_,_,_=>h.elim|_::_,[],_,_,h,_,_,_=>h.elim|b::fs,t0::ts,0,j+1,⟨h1,_,h3,a⟩,hi,hj,_=>by grind[List.getElem?_cons_zero,adG,ak6,Fs.at,List.mem_of_getElem?]|b::fs,t0::ts,i+1,j+1,⟨_,_,_,a⟩,hi,hj,c=>by exact Fs.mC a hi hj af|_::_,_::_,_,0,_,_,_,h=>by omega
variable{c:Cx}{s:List SI}{L:Kn}{d:Option ab}{l:List be}
theorem RO.aec(U:aj A H ts)(i j:Nat){x:aJ}{p:ab}{C cap:Nat}{ex:Bool}(h:∀H',aj A H' ts->RO ac c l s (bC L d v) H')(G:bf L x=.az q o:=by exact cw)(D:lk L p=.slice r 0 C cap ex:=by exact cw)(hi:ts[i]?=some (tB e q vs):=by rfl)(hj:ts[j]?=some (tS m size ws n full (.slice r 0 C cap ex)):=by rfl)(u:i≠j:=by decide)(I:vs[o]?=some v:=by rfl):RO ac c (⟨d,.aW x,none,[p],[]⟩::l) s L H:=by
 have w:q≠r:=by
  obtain⟨_,fs,E⟩:=U;rcases Nat.lt_or_gt_of_ne u with a|a
  .obtain⟨f,g,h1,h2,h3⟩:=E.mC hi hj a;rintro rfl;refine h3 q h1.1 ?_;rcases h2 with⟨_,_,_,h⟩|⟨J,K,aM,cap,y,rfl,h2,_⟩;·cases h
   injection h2 with h2;subst h2;exact aeU ..
  obtain⟨f,g,h1,h2,h3⟩:=E.mC hj hi a;rintro rfl;refine h3 q ?_ h2.1;rcases h1 with⟨_,_,_,h⟩|⟨J,K,aM,cap,y,rfl,h2,_⟩;·cases h
  injection h2 with h2;subst h2;exact aeU ..
 obtain⟨M,z⟩:=U.get i hi;have t:=tB.cell z I;have B:aj A ((H.set r .none).set r (H.get r)) ts:=U.bX rfl λk=>by
  rw[ai.aF];split;·rename_i e;rw[e]
  rename_i e;rw[ai.aF,aq e]
 refine RO.Ei (λ_ _ h=>by grind) (λ_ h=>by grind) (λaa b=>⟨H.set r .none,?_,?_⟩) (λ_ _=>rfl) (h _ B)
 .simp only[eV,b.get D rfl,jq,aE,b.gv G rfl];have:bh (H.set r .none) q o=some v:=by simp only[bh,ai.aF,aq w];exact t
  unfold bh at this;split at this;all_goals simp_all[jp,fE,iI,aK,aes,bP]
 simp only[eV,b.get D rfl,jq,eB]
def i9(M:List ab):List Th:=M.map λm=>tX m (.deferred false)
theorem OP:∀{M:List ab}{H:ai},aj A H (i9 M++ts)->∃H',jN H M=some H'/\aj A H' ts|[],H,U=>⟨H,rfl,U⟩|m::M,H,U=>by have hg:H.get m=.deferred false:=U.rj 0 rfl;obtain⟨H',h1,h2⟩:=OP (U.tV 0 rfl (.deferred true)).tail;simp[hg,h1,h2,jN]
theorem RJ.mI{K:KT}{c:List iW}{M:List ab}{a:cP}(hj:a=.none\/a=.ret)(U:aj A H (i9 M++ts))(h:∀H',aj A H' ts->∃vs,tW L H' c vs/\K (iL vs) H'):RJ ac ⟨pu c K,M,none⟩ a [] L H:=λaa b=>by obtain⟨H',h1,h2⟩:=OP U;obtain⟨vs,h3,d⟩:=h H' h2;have:=h3.yf b;rcases hj with rfl|rfl<;>simp only[kh,pu,h1,this]<;>exact d
theorem Ru.mI{K:KT}{a:List iW}{M:List ab}{s:List SI}(U:aj A H (i9 M++ts))(h:∀H',aj A H' ts->∃vs,tW L H' a vs/\K (iL vs) H'):Ru ac ⟨pu a K,M,none⟩ (.code .ret::s) L H:=Ru.ret (RJ.wp (RJ.mI (.inr rfl) U h))
end
end
section
variable{ac:Nat->aG}{c:Cx}{s:List SI}{L:Kn}{A B H H':ai}{d:Option ab}{l:List be}{ts us:List Th}{q r:ab}{e size n m o k i j bytes:Nat}{vs ws:List AV}{v w sv:AV}{full:Bool}
theorem OQ{c:ap AV}{n:Nat}:∀{m o:Nat}{l:List AV},iI c n o m=some l->l.length=m/\o+m<=max n o/\∀j(h:j<l.length),c.bw .alR (o+j)=l[j]
 |0,o,l,h=>by simp only[iI,adG]at h;grind
 |m+1,o,l,h=>by
  simp only[iI]at h;split at h
  .split at h;·rename_i a hl;injection h with h;subst h;obtain⟨h1,h2,h3⟩:=OQ hl;grind
   grind
  grind
theorem I'{cs:List AV}(h:fE H q o n=some cs)(a:k+m<=n):fE H q (o+k) m=some ((cs.drop k).take m):=by
 unfold fE at h⊢;split at h;·rename_i b c _ _ _ _ hg;obtain⟨h1,h2,h3⟩:=OQ h;by_cases h0:m=0;all_goals grind[iI,yh,akF,alC,alo,aly]
 grind
theorem Sl.bX(h:Sl H size vs n sv):iy sv sv=true:=by rcases h with⟨rfl,_⟩|⟨_,_,_,_,_,_,_,_,_,_,rfl,_⟩;all_goals simp[iy,gz,ab.ip]
theorem vt{xs ts us:List Th}:(xs++ts++us).Perm (ts++(xs++us)):=by rw[<-aj2];exact akH.append_right us
theorem dV.bX{a:Type}{R:ai->a->List AV->Prop}{b:List a}(h:dV size R H b sv):iy sv sv=true:=by obtain⟨vs,h,_⟩:=h;exact h.bX
theorem RO.Ja(U:aj A H ts)(i:Nat){a x:aJ}{re:List jo}(h:∀H',aj A H' (ts.set i (tB e q (sp vs o ws)))->(∀aa,Le (bC L d .alR) aa->fG aa H' re=true)/\RO ac c l s (bC L d .alR) H')(f:bf L a=.az q o:=by exact cw)(g:bf L x=.agg ws:=by exact cw)(hi:ts[i]?=some (tB e q vs):=by rfl)(j:o+ws.length<=vs.length:=by first|decide|exact akc rfl|simp|omega)(k:ws.length=n:=by first|rfl|simp)(m:dS ws=true:=by repeat first|rfl|assumption|(refine ao ?_ ?_)):RO ac c (⟨d,.store n a x,none,[],re⟩::l) s L H:=by obtain⟨u,p,_,hu⟩:=U.ki i hi;obtain⟨H',fp',h1,h2,h3⟩:=tB.wx (ws:=ws) p j m;obtain⟨r,t⟩:=h H' (hu h2 h3);refine RO.Ei (λ_ _ h=>by grind) (λ_ h=>by grind) (λaa b=>⟨H',?_,rfl⟩) r t;simp only[eV,aE,b.gv f rfl,b.gv g rfl,AV.cells,k,bq,h1]
theorem RO.Jb{f:aJ}{args:List aJ}{fv:AV}{i:List AV}{p:ab}{re:List jo}{A cap off:Nat}{ex:Bool}(b:∀k,(∀j,j≠r->k.get j=H.get j)->k.next=H.next->YF ac fv i k λm H'=>m=v/\H'=k)(h:∀n,(∀j,n.get j=H.get j)->n.next=H.next->(∀aa,Le (bC L d v) aa->fG aa n re=true)/\RO ac c l s (bC L d v) n)(C:lk L p=.slice r off A cap ex:=by exact cw)(D:bf L f=fv:=by exact cw)(o:fv.bB=true:=by first|rfl|assumption)(E:args.map (bf L)=i:=by rfl)(q:i.all AV.bB=true:=by repeat first|rfl|assumption|(refine ad ?_ ?_)):RO ac c (⟨d,.call f args,none,[p],re⟩::l) s L H:=λaa a=>by
 have t:args.map (gv aa)=i:=by subst E;refine alk λx F=>?_;exact a.gv rfl (aln.1 q _ (akp F))
 obtain⟨y,u⟩:=b (H.set r .none) (λj hj=>by rw[ai.aF,aq hj]) rfl;have g:∀j,((H.set r .none).set r (H.get r)).get j=H.get j:=λj=>by
  rw[ai.aF];split;·rename_i e;rw[e]
  rename_i e;rw[ai.aF,aq e]
 obtain⟨G,I⟩:=h _ g rfl;obtain⟨z,w⟩:=I _ (a.set d v);refine⟨max y z+1,?_⟩;simp only[Xo,Go.am.aC,fF,eV,a.get C rfl,jq,bq];rw[a.gv D o,t];refine(show Xf ac y fv i _ _ from u).mono (Nat.le_max_left ..) λm H' J=>?_;obtain⟨rfl,rfl⟩:=J;have K:fG (aQ aa d m) (eB (H.set r .none) [(r,H.get r)]) re=true:=G _ (a.set d m);rw[aK K];exact(show Xo ac z l _ _ _ from w).mono (Nat.le_max_right ..) λ_ _ h=>h
theorem RO.Jc(U:aj A H ts){x y:aJ}{r:AV}{t:List AV}{re:List jo}(hs:(sv=.aS/\vs=[]/\n=0)\/∃i o,sv=.slice i o n n true/\Sl H size vs n sv)(b:Sl H size ws 1 r)(h:∀H' v,bm H H'->aj A H' (tS e size (vs++ws) (n+1) true v::ts)->(∀aa,Le (bC L d v) aa->fG aa H' re=true)/\RO ac c l s (bC L d v) H')(h1:dS ws=true:=by repeat first|rfl|assumption|(refine ao ?_ ?_))(u:bf L x=sv:=by exact cw)(w:bf L y=r:=by exact cw)(hb:(n+1)*bytes<=70368744177664:=by omega)(z:n+1<=70368744177664:=by omega):RO ac c (⟨d,.append e bytes size t false x y,none,[],re⟩::l) s L H:=by
 have f:(fw ((n+1)*bytes)&&fw (n+1))=true:=by rw[ww hb,ww z];rfl
 have hd:sv.bB=true:=by rcases hs with⟨rfl,_⟩|⟨_,_,rfl,_⟩<;>rfl
 have key:∃v H',kI e bytes size H sv 1 ws=some (v,H')/\bm H H'/\aj A H' (tS e size (vs++ws) (n+1) true v::ts):=by
  rcases hs with⟨rfl,rfl,rfl⟩|⟨i,o,rfl,hs⟩;·refine⟨.slice H.next 0 1 1 false,H.new (.cells (db ws) (1*size) e true [] 0),?_,bm.new H _,U.push (bm.new H _) (dU.new (by simpa using b.length) false true) (uU H)⟩;rw[akh]at f;simp only[kI,h1,aku,aes,bP,show akb 1 0=false from rfl,f,bq]
  have a:=hs.je;have j:=hs.length;refine⟨.slice H.next 0 (n+1) (n+1) false,H.new (.cells (db (vs++ws)) ((n+1)*size) e true [] 0),?_,bm.new H _,U.push (bm.new H _) (dU.new (by rw[aj8,j,b.length,alB]) false true) (uU H)⟩;have m:ak2 (n+1) n=false:=by cases p:ak2 (n+1) n with|false=>rfl|true=>have:=akc p;omega
  simp only[je,fE]at a;cases hg:H.get i with
  |cells C D J I aM fz=>rw[hg]at a;simp only at a;cases k:iI C D o (n*size)with|none=>rw[k]at a;cases a|some K=>rw[k]at a;simp only[adG,aj1,true_and]at a;subst a;simp only[kI,h1,aku,aes,bP,m,f,hg,k,bq]
  |_=>rw[hg]at a;cases a
 obtain⟨v,H',h2,h3,E⟩:=key;obtain⟨F,G⟩:=h H' v h3 E;have q:=b.bB;refine RO.Ei (λ_ _ h=>by grind) (λ_ h=>by grind) (λaa g=>⟨H',?_,rfl⟩) F G;simp only[eV,aE,g.gv u hd,g.gv w q,b.je,aes,bP,h2]
def pc(v:AV)(b:Nat):AV:=match v with|.slice i o _ cap ex=>.slice i o b cap ex|v=>v
theorem CF{b:Nat}(hs:Sl H size vs n sv)(hb:b<=n):Sl H size (vs.take (b*size)) b (pc sv b):=by
 rcases hs with⟨rfl,rfl,rfl⟩|⟨i,o,cap,ex,d,m,e,a,aM,fz,rfl,hg,f,hl,g,hi,c⟩;·have:b=0:=af;subst this;exact .inl ⟨rfl,rfl,aB⟩
 have cA:b*size<=n*size:=aky _ hb;refine .inr ⟨i,o,cap,ex,d,m,e,a,aM,fz,rfl,hg,af,?_,λj hj=>?_,hi,af⟩;all_goals grind
theorem RO.pc{x y:aJ}{b:Nat}(hs:Sl B size vs n sv)(h:RO ac c l s (bC L d (Go.am.pc sv b)) H)(a:bf L x=sv:=by exact cw)(f:bf L y=.int k (.ofNat b):=by exact cw)(hb:b<=n:=by omega):RO ac c (⟨d,.im e size x none (some y) none,none,[],[]⟩::l) s L H:=by
 rcases hs with⟨rfl,rfl,rfl⟩|⟨i,o,cap,ex,p,m,q,j,aM,fz,rfl,hg,r,hl,t,hi,g⟩;·have:b=0:=af;subst this;refine RO.Cb (m:=0) (b:=0) (a:=0) a rfl ?_ rfl h;simp only[l7,f];rfl
 refine RO.im (m:=cap) (b:=b) (a:=0) a rfl ?_ rfl aB ?_;·simp only[l7,f];exact tu af
 have e1:(if ex&&decide (cap=0)then o else o+0*size)=o:=by split<;>omega
 rw[e1,alJ,alJ,Option.isSome_none,Bool.or_false];exact h
theorem RO.Jd{g:Type}{R:ai->g->List AV->Prop}{a:List g}(hg:bm B H){x y:aJ}{j kd:Nat}(hs:dV size R B a sv)(h:∀q o cs(hj:j<a.length),R B a[j] cs->cs.length=size->(∀t v,cs[t]?=some v->∀{H'},bm B H'->bh H' q (o+t)=some v)->RO ac c l s (bC L d (.az q o)) H)(k:bf L x=sv:=by exact cw)(m:bf L y=.int kd (.ofNat j):=by exact cw)(hj:j<a.length:=by first|assumption|omega):RO ac c (⟨d,.dG size x y,none,[],[]⟩::l) s L H:=by
 obtain⟨q,o,cap,ex,cs,rfl,h1,h2,h3,p⟩:=hs.at hj;have b:q.an<B.next.an:=by
  obtain⟨vs,n,_⟩:=hs;rcases n with⟨h,_⟩|⟨i,_,_,_,_,_,_,_,_,_,h,_,_,_,_,hi,_⟩;·cases h
  injection h with h;subst h;exact hi
 exact RO.dG (h q (o+j*size) cs hj h1 h2 λt v e H' f=>by rw[f.bh b];exact h3 t v e) k m hj
end
section
variable{ac:Nat->aG}{c:Cx}{s:List SI}{L:Kn}{A B H H':ai}{d:Option ab}{l:List be}{ts us:List Th}{q r:ab}{e n m o k i bytes:Nat}{vs:List AV}{v w sv:AV}
def tU(e:Nat)(vs:List AV)(sv:AV):Th where
 P H b:=∃i off ex c m aM,b=i::aM/\sv=.slice i off vs.length vs.length ex/\H.get i=.cells c m e true aM 0/\(ex=true\/m=off+vs.length)/\off+vs.length<=m/\(∀j(h:j<vs.length),c.bw .alR (off+j)=vs[j])/\∀p∈b,p.an<H.next.an
 fr h g hg:=by
  obtain⟨i,off,ex,c,m,aM,rfl,h1,h2,h3,d,f,a⟩:=h
  exact⟨i,off,ex,c,m,aM,rfl,h1,by rw[hg i (aeU ..)];exact h2,h3,d,f,λp k=>ako (a p k) g⟩
 lt h:=by
  obtain⟨i,off,ex,c,m,aM,rfl,h1,h2,h3,d,f,a⟩:=h
  exact a
theorem tU.sl{a:List ab}(h:(tU e vs sv).P H a):Sl H 1 vs vs.length sv:=by obtain⟨i,off,ex,c,m,aM,rfl,h1,h2,h3,f,b,d⟩:=h;exact .inr ⟨i,off,_,ex,c,m,e,true,aM,0,h1,h2,af,(alt _).symm,b,d i (aeU ..),afb _⟩
theorem aj.OS(U:aj A H ts)(i:Nat)(hi:ts[i]?=some (tU e vs sv):=by rfl):Sl H 1 vs vs.length sv:=by obtain⟨b,a⟩:=U.get i hi;exact tU.sl a
theorem aj.toU(U:aj A H ts)(i:Nat)(hi:ts[i]?=some (tS e 1 vs vs.length true (.slice q 0 vs.length vs.length true))):aj A H (ts.set i (tU e vs (.slice q 0 vs.length vs.length true))):=by
 refine U.as i hi λk a=>?_;rcases a with⟨_,_,_,h⟩|⟨l,d,aM,cap,f,rfl,h2,hg,c,g,m,a,b⟩;·grind
 injection h2 with h2 _ _ h3 n;subst h2;exact⟨q,0,true,d,_,aM,rfl,rfl,hg,.inl rfl,af,λj hj=>by grind,a⟩
theorem RO.aee(U:aj A H ts)(i:Nat){x:aJ}(h:∀a,aj A H (ts.set i (tU e vs a))->a.bB=true->a.ee=true->a.cells=[a]->RO ac c l s (bC L d a) H)(hi:ts[i]?=some (tU e (v::vs) sv):=by rfl)(b:bf L x=sv:=by exact cw):RO ac c (⟨d,.im e 1 x (some (.c (.int 3 (.ofNat 1)))) none none,none,[],[]⟩::l) s L H:=by
 obtain⟨r,f,_,hu⟩:=U.ki i hi;obtain⟨j,off,ex,g,m,aM,rfl,h1,h2,h3,k,n,o⟩:=f;subst h1;have q:sM H j e=true:=by simp only[sM,h2,ald]
 refine RO.HW (m:=vs.length+1) (b:=vs.length+1) (a:=1) b rfl rfl (by rfl) (by grind) (v:=.slice j (if ex&&decide (vs.length+1=1)then off else off+1*1) vs.length vs.length ex) aB ?_;refine h _ (hu (t':=tU e vs _) (oS.refl _ H) ⟨j,_,ex,g,m,aM,rfl,rfl,h2,?_,?_,λt p=>?_,o⟩) rfl rfl rfl;·grind
 .simp only[akA]at k;split<;>omega
 split;·grind
 have:=n (t+1) (by simpa using p);grind
theorem RO.aef(U:aj A H ts)(i:Nat){p:ab}{x:aJ}{C:List (Nat×Nat×aJ)}{D v:List AV}(w:AV)(h:∀u H' b,aj A H' (ts.set i (tU e (vs++[w]) b))->b.bB=true->b.ee=true->b.cells=[b]->RO ac c l s (bC ((p,u)::L) d b) H')(hi:ts[i]?=some (tU e vs sv):=by rfl)(hl:qO L (fO D 1) C=some [w]:=by exact cw)(h1:w.ee=true:=by first|rfl|assumption)(E:∀u,bf ((p,u)::L) x=sv:=by(intro u;conv=>lhs;whnf)<;>rfl)(hb:(vs.length+1)*bytes<=70368744177664:=by omega)(hn:vs.length+1<=70368744177664:=by omega):RO ac c (⟨some p,.buildSlice e 1 D C,none,[],[]⟩::⟨d,.append e bytes 1 v false x (.t p),none,[],[]⟩::l) s L H:=by
 have g:dS [w]=true:=by simp[dS,h1]
 refine RO.buildSlice ?_ hl g;have hg:bm H (H.new (.cells (db [w]) [w].length e true [] 0)):=bm.new H _;have y:=U.cI hg;have hs:Sl (H.new (.cells (db [w]) [w].length e true [] 0)) 1 [w] 1 (.slice H.next 0 1 1 true):=(dU.new (H:=H) (e:=e) (size:=1) (n:=1) (vs:=[w]) rfl true true).sl;generalize O:H.new (.cells (db [w]) [w].length e true [] 0)=H1 at*;obtain⟨Q,a,_,hu⟩:=y.ki i hi;obtain⟨j,off,ex,r,m,aM,rfl,G,F,I,J,K,M⟩:=a;subst G;have n:(!(fw ((vs.length+1)*bytes)&&fw (vs.length+1)))=false:=by rw[ww hb,ww hn];rfl
 have o:ak2 (vs.length+1) vs.length=false:=by cases z:ak2 (vs.length+1) vs.length with|false=>rfl|true=>have:=akc z;omega
 have hrd:iI r m off (vs.length*1)=some vs:=by have:=yh (c:=r) (n:=m) (l:=vs) (o:=off) J K;rw[alt];exact this
 have f:∀j(hj:j<(vs++[w]).length),(db (vs++[w])).bw .alR (0+j)=(vs++[w])[j]:=λj hj=>by rw[akh];exact Ao hj
 cases q:ex with
 |true=>subst q;refine RO.append (r:=(.slice H1.next 0 (vs.length+1) (vs.length+1) false,H1.new (.cells (db (vs++[w])) ((vs.length+1)*1) e true [] 0))) hs.je (by simp only[kI,g,aku,aes,bP,o,n,F,hrd,bq]) (h _ _ _ (hu (fp':=[H1.next]) (t':=tU e (vs++[w]) _) ⟨(bm.new H1 _).nx,λp a=>.inr (by rw[aep]at a;subst a;exact afb _),λp _ a=>(bm.new H1 _).dT p a⟩ ⟨H1.next,0,false,_,_,[],rfl,aB,by rw[ai.dJ,aK rfl],.inr aB,aB,f,λp a=>by rw[aep]at a;subst a;rw[ai.nK];omega⟩) rfl rfl rfl) (E _) rfl (by show lk (bC L (some p) _) p=_;simp only[bC,lk,ab.ip.2 rfl]) rfl
 |false=>
  subst q;have N:m=off+vs.length:=by rcases I with h|h;cases h;exact h
  have k:(true&&akb vs.length vs.length&&akb (off+vs.length*1) m&&akb e e&&ak2 0 m)=true:=by rw[N,alt];simp[ald]
  refine RO.append (r:=(.slice H1.next 0 (vs.length+1) (vs.length+1) false,(H1.set j (.cells r m e false aM 0)).new (.cells (db (vs++[w])) ((vs.length+1)*1) e true (j::aM) (0 - off)))) hs.je (by simp only[kI,g,aku,aes,bP,o,n,F,hrd,k,bq]) (h _ _ _ (hu (fp':=H1.next::j::aM) (t':=tU e (vs++[w]) _) ⟨by rw[ai.nK,ai.gD];omega,λp a=>?_,λp a P=>?_⟩ ⟨H1.next,0,false,_,_,j::aM,rfl,aB,by rw[ai.dJ,ai.gD,aK rfl,Nat.zero_sub],.inr aB,aB,f,λp a=>?_⟩) rfl rfl rfl) (E _) rfl (by show lk (bC L (some p) _) p=_;simp only[bC,lk,ab.ip.2 rfl]) rfl
  .rcases aeV.1 a with rfl|a;·exact .inr (afb _)
   exact .inl a
  .rw[ai.dJ,ai.gD,aq (cG af),ai.aF,aq λe:p=j=>a (by rw[e];exact aeU ..)]
  rw[ai.nK,ai.gD];rcases aeV.1 a with rfl|a;·omega
  have:=M p a;omega
end
section
variable{ac:Nat->aG}{c:Cx}{s:List SI}{L:Kn}{A B H H':ai}{d:Option ab}{l:List be}{ts us:List Th}{q r:ab}{e n m o k i cap:Nat}{vs:List AV}{v w sv:AV}{full ex:Bool}
theorem RO.yK(U:aj A H ts)(i:Nat)(f:vs.length=n){a x:aJ}(h:∀H',aj A H' (ts.set i (tS e 1 (vs.set k w) n full (.slice q 0 n cap ex)))->RO ac c l s (bC L d .alR) H')(g:bf L a=.az q (0+k*1):=by exact cw)(j:bf L x=w:=by exact cw)(hi:ts[i]?=some (tS e 1 vs n full (.slice q 0 n cap ex)):=by rfl)(ho:k<vs.length:=by first|omega|assumption)(m:w.ee=true:=by first|rfl|assumption)(o:w.cells=[w]:=by first|rfl|assumption)(hd:w.bB=true:=by first|rfl|assumption):RO ac c (⟨d,.store 1 a x,none,[],[]⟩::l) s L H:=by have e1:vs.map id=vs:=List.map_id vs;refine RO.lC (f:=id) (zs:=vs) U i w f (λH' b=>h H' ?_) g j (by rw[e1];exact hi) ho m o hd;rw[List.map_id]at b;exact b
end
section
variable{ac:Nat->aG}{c:Cx}{s:List SI}{L:Kn}{A B H H':ai}{d:Option ab}{l:List be}{ts us:List Th}{q r:ab}{e n m o k i cap size:Nat}{vs:List AV}{v w sv:AV}{full ex:Bool}
theorem aeg{v:AV}{i:ab}(h:jq v=some i):v.bB=true:=by cases v<;>first|rfl|cases h
def yL(L:Kn):List ab->List (Option ab)
 |[]=>[]
 |p::a=>jq (lk L p)::yL L a
theorem CG{aa:ap AV}(a:Le L aa):∀{ps is:List ab}{H:ai},yL L ps=is.map some->(eV aa H ps).1.next=H.next/\(∀j,j∉is->(eV aa H ps).1.get j=H.get j)/\∀H1,(eB H1 (eV aa H ps).2).next=H1.next/\∀j,(eB H1 (eV aa H ps).2).get j=if j∈is then H.get j else H1.get j
 |[],[],H,_=>⟨rfl,λ_ _=>rfl,λH1=>⟨rfl,λj=>by rfl⟩⟩
 |[],_::_,H,h=>by trivial
 |_::_,[],H,h=>by trivial
 |p::ps,i::is,H,h=>by
  simp only[yL,aj7,akn]at h;have e1:aa.get .alR p=lk L p:=a.get rfl (aeg h.1);obtain⟨h1,h2,h3⟩:=CG a (ps:=ps) (is:=is) (H:=H.set i .none) h.2;simp only[eV,e1,h.1];refine⟨h1,λj hj=>?_,λH1=>⟨?_,λj=>?_⟩⟩;·simp_all[aey,ai.aF,aq,aeU]
  .exact(h3 H1).1
  simp only[eB,ai.aF];by_cases b:j=i;all_goals simp[b,h3,aq,aeV,false_or,ai.aF,bP]
theorem Fs.move{A a H H':ai}(c:H'.next=H.next)(b:a.next.an=A.next.an)(hg:∀j,A.next.an<=j.an->H'.get j=H.get j):∀{fs:List (List ab)}{ts:List Th},Fs A H fs ts->Fs a H' fs ts|[],[],_=>trivial|[],_::_,h=>h.elim|_::_,[],h=>h.elim|f::fs,t::ts,⟨h1,h2,h3,d⟩=>⟨t.fr h1 (by grind) λj hj=>hg j (h2 j hj),λj hj=>by rw[b];exact h2 j hj,h3,Fs.move c b hg d⟩
theorem aj.show{c H1 d:ai}{is:List ab}(a:c.next=H.next)(h0:∀j,j∉is->c.get j=H.get j)(f:∀j∈is,j.an<H.next.an)(b:d.next=H1.next)(hu:∀j,d.get j=if j∈is then H.get j else H1.get j)(U:aj c H1 us):aj H d us:=by
 obtain⟨hg,fs,g⟩:=U;refine⟨⟨by rw[b,<-a];exact hg.nx,λj hj=>?_⟩,fs,g.move b (by rw[a]) λj hj=>?_⟩
 .rw[hu];split;·rfl
  rename_i e;rw[hg.dT j (by rw[a];exact hj),h0 j e]
 rw[hu,aq λe=>?_];have:=f j e;rw[a]at hj;omega
theorem RO.CH{f:aJ}{args:List aJ}{fv:AV}{i:List AV}{u is:List ab}{re:List jo}{Q:AV->List Th->Prop}(U:aj A H ts)(w:∀j∈is,j.an<H.next.an)(g:∀q,q.next=H.next->(∀j,j∉is->q.get j=H.get j)->YF ac fv i q λv H1=>∃e,aj q H1 e/\Q v e)(h:∀v e r,Q v e->bm H r->aj A r (e++ts)->(∀aa,Le (bC L d v) aa->fG aa r re=true)/\RO ac c l s (bC L d v) r)(D:yL L u=is.map some:=by exact cw)(E:bf L f=fv:=by exact cw)(y:fv.bB=true:=by first|rfl|assumption)(F:args.map (bf L)=i:=by rfl)(z:i.all AV.bB=true:=by repeat first|rfl|assumption|(refine ad ?_ ?_)):RO ac c (⟨d,.call f args,none,u,re⟩::l) s L H:=λaa b=>by
 have C:args.map (gv aa)=i:=by subst F;refine alk λx G=>?_;exact b.gv rfl (aln.1 z _ (akp G))
 obtain⟨h1,h2,h3⟩:=CG b (H:=H) D;generalize I:eV aa H u=a at h1 h2 h3;have key:YF ac fv i a.1 λv H1=>fG (aQ aa d v) (eB H1 a.2) re=true/\∃n,Xo ac n l ⟨aQ aa d v,c.M,c.R⟩ (eB H1 a.2) (kh ac c.K s .none):=by refine(g a.1 h1 h2).mono λv H1 t=>?_;obtain⟨e,hl,J⟩:=t;obtain⟨N,O⟩:=h3 H1;have o:=hl.show h1 h2 w N O;obtain⟨P,S⟩:=h v e _ J o.gr (U.fC o);exact⟨P _ (b.set d v),S _ (b.set d v)⟩
 obtain⟨n,T⟩:=key;obtain⟨m,k⟩:=(Ad ac n).call (K:=λm v H1=>fG (aQ aa d v) (eB H1 a.2) re=true/\Xo ac m l ⟨aQ aa d v,c.M,c.R⟩ (eB H1 a.2) (kh ac c.K s .none)) (λm V v H k h=>⟨h.1,h.2.mono k λ_ _ h=>h⟩) ((mono ac n).call (afb _) (λv H1 t=>t.2.imp λm k=>⟨t.1,k⟩) T);refine⟨max n m+1,?_⟩;simp only[Xo,Go.am.aC,fF,bq,I];rw[b.gv E y,C];refine(show Xf ac n fv i _ _ from k).mono (Nat.le_max_left ..) λv H1 p=>?_;rw[aK p.1];exact(show Xo ac m l _ _ _ from p.2).mono (Nat.le_max_right ..) λ_ _ h=>h
theorem RO.wO{x:aJ}{g is:List ab}(r:bh H q o=some v)(m:q∉is)(h:∀i,(∀j,i.get j=H.get j)->i.next=H.next->RO ac c l s (bC L d v) i)(t:bf L x=.az q o:=by exact cw)(u:yL L g=is.map some:=by exact cw):RO ac c (⟨d,.aW x,none,g,[]⟩::l) s L H:=λaa e=>by
 obtain⟨h1,h2,h3⟩:=CG e (H:=H) u;generalize w:eV aa H g=b at h1 h2 h3;obtain⟨y,z⟩:=h3 b.1;have f:∀j,(eB b.1 b.2).get j=H.get j:=λj=>by
  rw[z];split;·rfl
  rename_i k;exact h2 j k
 obtain⟨n,k⟩:=h _ f (y.trans h1) _ (e.set d v);refine⟨n+1,?_⟩;have a:bh b.1 q o=some v:=by simp only[bh,h2 q m];exact r
 have he:aE (.aW x) aa b.1=some (v,b.1):=by
  simp only[aE,e.gv t rfl];unfold bh at a;split at a
  .rename_i cc n _ _ _ _ hg;split at a;·rename_i hb;injection a with a;have p:o<n:=akY.mp hb;simp only[jp,fE,hg,iI,aK p,a,aes,bP];rfl
   cases a
  cases a
 simp[w,he,k,Xo,Go.am.aC,fF,bq,fG]
theorem aj.AU(U:aj A H ts)(i:Nat)(hi:ts[i]?=some (tB e q vs):=by rfl):A.next.an<=q.an/\q.an<H.next.an:=by obtain⟨c,a,b,_⟩:=U.ki i hi;exact⟨b q a.1,a.2.2.elim λ_ h=>h.2.2⟩
theorem aj.CI(U:aj A H ts)(i:Nat)(hi:ts[i]?=some (tS e size vs n full (.slice q o m cap ex)):=by rfl):A.next.an<=q.an/\q.an<H.next.an:=by
 obtain⟨d,a,b,_⟩:=U.ki i hi;have hb:=dU.below a;rcases a with⟨_,_,_,h⟩|⟨f,g,aM,cap,c,rfl,h2,_⟩;·grind
 injection h2 with h2;subst h2;exact⟨b _ (aeU ..),hb _ (aeU ..)⟩
end
end Go.am
end
