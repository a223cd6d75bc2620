/- A part. No conditions. -/
import Derived.Test.YtodnahjlheaolaaGreatDoorA05
import Derived.Test.YtodnahjlheaolaaGreatDoorA06
import Derived.Test.YtodnahjlheaolaaGreatDoorA07
import Derived.Test.YtodnahjlheaolaaGreatDoorA08
import Derived.Laws.RangeAny
import Derived.ChangeArms
import Derived.DataReads
set_option linter.all false
open List renaming range->ahq
open Nat renaming beq->ahr,blt->ahO,ble->aih
open List.Perm renaming swap->ah5
open UInt8 renaming toNat->aiJ,ofNat->ai0
open Eq renaming mpr->ai5
noncomputable section
namespace Go.al.R
abbrev BQ:=288
abbrev cS:=44
abbrev kJ:=156
abbrev cA:=24
abbrev uK:=252
abbrev cW:=25
abbrev uL:=211
abbrev pF:=255
abbrev mg:=42
abbrev n8:=46
abbrev xD:=48
abbrev E6:=250
abbrev E7:=247
abbrev VZ:=251
abbrev V0:=241
abbrev V1:=192
abbrev V2:=193
abbrev n9:=73
abbrev V3:=81
abbrev fW:=65
abbrev Kd:=163
abbrev E8:=114
abbrev dR:=85
abbrev lN:=82
abbrev Ke:=195
abbrev tu:=194
abbrev pG:=128
abbrev xE:=120
abbrev mh:=76
abbrev BR:=226
abbrev qG:=98
abbrev ln:=228
abbrev E9:=167
abbrev Kf:=38
def p0:ah:=.xH
def p1:ah:=.xO p0
def p2:ah:=.xI p0
def p3:ah:=.xO p1
def p4:ah:=.xI p1
def p5:ah:=.xO p2
def p6:ah:=.xI p2
def p7:ah:=.xO p3
def p8:ah:=.xI p3
def p9:ah:=.xO p4
def dS:ah:=.xI p4
def eD:ah:=.xO p5
def gQ:ah:=.xI p5
def iS:ah:=.xO p6
def iF:ah:=.xI p6
def km:ah:=.xO p7
def kU:ah:=.xI p7
def lq:ah:=.xO p8
def lr:ah:=.xI p8
def pH:ah:=.xO p9
def rT:ah:=.xI p9
def rU:ah:=.xO dS
def pI:ah:=.xI dS
def tw:ah:=.xO eD
def rV:ah:=.xI eD
def qH:ah:=.xO gQ
def qI:ah:=.xI gQ
def qJ:ah:=.xO iS
def uM:ah:=.xI iS
def zU:ah:=.xO iF
def xF:ah:=.xI iF
def uD:ah:=.xO km
def xG:ah:=.xI km
def xJ:ah:=.xO kU
def xK:ah:=.xI kU
def rX:ah:=.xO lq
def mi:ah:=.xI lq
def rY:ah:=.xO lr
def tx:ah:=.xI lr
def uN:ah:=.xO pH
def uO:ah:=.xI pH
def uP:ah:=.xO rT
def uQ:ah:=.xI rT
def tz:ah:=.xO rU
def uR:ah:=.xI rU
def uS:ah:=.xO pI
def rZ:ah:=.xI pI
def og:ah:=.xO tw
def m8:ah:=.xI tw
def na:ah:=.xO rV
def tA:ah:=.xI rV
def xL:ah:=.xO qH
def xM:ah:=.xI qH
def uT:ah:=.xO qI
def oh:ah:=.xI qI
def sa:ah:=.xO qJ
def sc:ah:=.xI qJ
def uU:ah:=.xO uM
def uV:ah:=.xI uM
def uW:ah:=.xO zU
def xN:ah:=.xI zU
def xP:ah:=.xO xF
def xQ:ah:=.xI xF
def uX:ah:=.xO uD
def qK:ah:=.xI uD
def uY:ah:=.xO xG
def uZ:ah:=.xI xG
def xR:ah:=.xO xJ
def xS:ah:=.xI xJ
def xU:ah:=.xO xK
def pJ:ah:=.xI xK
def xV:ah:=.xO rX
def xW:ah:=.xI rX
def xX:ah:=.xO mi
def xY:ah:=.xI mi
def xZ:ah:=.xO rY
def x6:ah:=.xI rY
def u6:ah:=.xO tx
def BS:ah:=.xI tx
def BT:ah:=.xO uN
def Kg:ah:=.xI uN
def Kh:ah:=.xO uO
def E':ah:=.xI uO
def Ki:ah:=.xO uP
def Kj:ah:=.xI uP
def Kk:ah:=.xO uQ
def Kl:ah:=.xI uQ
def Km:ah:=.xO tz
def Ko:ah:=.xI tz
def Kq:ah:=.xO uR
def Kr:ah:=.xI uR
def Ks:ah:=.xO uS
def Kt:ah:=.xI uS
def Ku:ah:=.xO rZ
def Kv:ah:=.xI rZ
def Kw:ah:=.xO og
def Kx:ah:=.xI og
def Ky:ah:=.xO m8
def Kz:ah:=.xI m8
def p99:ah:=.xO na
def afn:ah:=.xI na
def afo:ah:=.xO tA
def afp:ah:=.xI tA
def afq:ah:=.xO xL
def afr:ah:=.xI xL
def afs:ah:=.xO xM
def afu:ah:=.xI xM
def afv:ah:=.xO uT
def afw:ah:=.xI uT
def afx:ah:=.xO oh
def afy:ah:=.xI oh
def afz:ah:=.xO sa
def afA:ah:=.xI sa
def afB:ah:=.xO sc
def afC:ah:=.xI sc
def afD:ah:=.xO uU
def afE:ah:=.xI uU
def afF:ah:=.xO uV
def afG:ah:=.xI uV
def afH:ah:=.xO uW
def afI:ah:=.xI uW
def afJ:ah:=.xO xN
def afK:ah:=.xI xN
def afL:ah:=.xO xP
def afM:ah:=.xI xP
def afN:ah:=.xO xQ
def afO:ah:=.xI xQ
def afP:ah:=.xO uX
def afQ:ah:=.xI uX
def afR:ah:=.xO qK
def afS:ah:=.xI qK
def afT:ah:=.xO uY
def afU:ah:=.xI uY
def afV:ah:=.xO uZ
def afW:ah:=.xI uZ
def afX:ah:=.xO xR
def afY:ah:=.xI xR
def afZ:ah:=.xO xS
def af0:ah:=.xI xS
def af1:ah:=.xO xU
def af2:ah:=.xI xU
def af3:ah:=.xO pJ
def af4:ah:=.xI pJ
def af5:ah:=.xO xV
def af6:ah:=.xI xV
def af7:ah:=.xO xW
def af8:ah:=.xI xW
def af9:ah:=.xO xX
def aga:ah:=.xI xX
def agb:ah:=.xO xY
def agc:ah:=.xI xY
def agd:ah:=.xO xZ
def age:ah:=.xI xZ
def agf:ah:=.xO x6
def agh:ah:=.xI x6
def agi:ah:=.xO u6
def agj:ah:=.xI u6
def agk:ah:=.xO BS
def agl:ah:=.xI BS
def agm:ah:=.xO BT
def agn:ah:=.xI BT
def ago:ah:=.xO Kg
def agp:ah:=.xI Kg
def agq:ah:=.xO Kh
def agr:ah:=.xI Kh
def ags:ah:=.xO E'
def agt:ah:=.xI E'
def agu:ah:=.xO Ki
def agv:ah:=.xI Ki
def agw:ah:=.xO Kj
def agx:ah:=.xI Kj
def agy:ah:=.xO Kk
def agz:ah:=.xI Kk
def agA:ah:=.xO Kl
def agB:ah:=.xI Kl
def agC:ah:=.xO Km
def agD:ah:=.xI Km
def agE:ah:=.xO Ko
def agF:ah:=.xI Ko
def agG:ah:=.xO Kq
def agH:ah:=.xI Kq
def agI:ah:=.xO Kr
def agJ:ah:=.xI Kr
def agK:ah:=.xO Ks
def agL:ah:=.xI Ks
def agM:ah:=.xO Kt
def agN:ah:=.xI Kt
def agO:ah:=.xO Ku
def agP:ah:=.xI Ku
def agQ:ah:=.xO Kv
def agR:ah:=.xI Kv
def agS:ah:=.xO Kw
def agT:ah:=.xI Kw
def agU:ah:=.xO Kx
def agV:ah:=.xI Kx
def agW:ah:=.xO Ky
def agX:ah:=.xI Ky
def agY:ah:=.xO Kz
def agZ:ah:=.xI Kz
abbrev V4:=3
abbrev V5:=4
abbrev V6:=5
abbrev V7:=6
abbrev KA:=7
abbrev KB:=8
abbrev V8:=9
abbrev KC:=10
abbrev Fb:=11
abbrev V9:=12
abbrev V':=13
abbrev Wa:=20
abbrev Wb:=22
abbrev Fc:=23
abbrev Wc:=24
abbrev Wd:=25
abbrev We:=26
abbrev Wf:=27
abbrev Wg:=28
abbrev Wh:=29
abbrev Wi:=30
abbrev Wj:=31
abbrev Wk:=32
abbrev Wl:=33
abbrev Wm:=34
abbrev Wn:=35
abbrev Wo:=36
abbrev Wp:=38
abbrev Wq:=46
abbrev Ws:=49
abbrev Wt:=52
abbrev Wu:=57
abbrev Wv:=58
abbrev KD:=59
abbrev Ww:=60
abbrev Wx:=61
abbrev Wy:=63
abbrev Wz:=64
abbrev WA:=65
abbrev WB:=66
abbrev WC:=67
abbrev WD:=68
abbrev WE:=69
abbrev WF:=70
abbrev WG:=71
abbrev WH:=73
abbrev KE:=74
abbrev Fe:=78
abbrev WI:=79
abbrev WJ:=81
abbrev WK:=98
abbrev BU:=99
abbrev WL:=100
abbrev KF:=102
abbrev WM:=103
abbrev WN:=104
abbrev WO:=105
abbrev BV:=106
abbrev WP:=107
abbrev WQ:=108
abbrev WR:=109
abbrev WS:=110
abbrev WT:=111
abbrev WU:=112
abbrev WV:=113
abbrev WW:=114
abbrev WX:=115
abbrev WY:=116
abbrev WZ:=118
abbrev W0:=119
abbrev W1:=127
abbrev KG:=128
abbrev W2:=129
abbrev W3:=130
abbrev W4:=131
abbrev W5:=133
abbrev W6:=134
abbrev W7:=135
abbrev W8:=136
abbrev W9:=137
abbrev Xa:=138
abbrev Xb:=159
abbrev Xd:=160
abbrev KH:=161
abbrev KI:=162
abbrev Xe:=163
abbrev Xg:=164
abbrev Xh:=165
abbrev Ff:=166
abbrev Xi:=168
abbrev Xj:=169
abbrev Xk:=170
abbrev Xl:=171
abbrev Xm:=172
abbrev KJ:=181
abbrev Xn:=182
abbrev KK:=183
abbrev Fg:=184
abbrev Xp:=185
abbrev Fh:=186
abbrev Xq:=187
abbrev Xr:=188
abbrev Fi:=189
abbrev KL:=190
abbrev Xs:=191
abbrev Xt:=192
abbrev Xu:=193
abbrev Xv:=194
abbrev BW:=195
abbrev Xw:=196
abbrev BX:=197
abbrev BY:=198
abbrev Xx:=199
abbrev Xy:=202
abbrev Xz:=205
abbrev XA:=206
abbrev XB:=210
abbrev Fj:=211
abbrev KM:=212
abbrev XC:=213
abbrev XD:=214
abbrev XE:=217
abbrev XF:=218
abbrev XG:=219
abbrev XH:=220
abbrev XI:=221
abbrev KN:=223
abbrev XJ:=224
abbrev KO:=225
abbrev XK:=226
abbrev XL:=227
abbrev XM:=229
abbrev KP:=230
abbrev KQ:=231
abbrev XN:=232
abbrev XO:=233
abbrev XP:=234
abbrev Fk:=235
abbrev XQ:=236
abbrev XR:=238
abbrev KR:=245
abbrev KS:=39
namespace Y
abbrev m(d a:ah):=O d (.bf (T a))
abbrev l(d a:ah):=O d (.aW (T a))
abbrev a(d:ah)(n:Nat)(a:ah):=O d (.iX n (T a))
abbrev x(d:ah)(n:Nat)(a b:ah):=O d (.dH n (T a) (T b))
abbrev s(n:Nat)(a b:ah):=N (.store n (T a) (T b))
abbrev k(d:ah)(n:Nat):=O d (.bf (I 3 n))
abbrev z(d a:ah):=O d (.iY (T a))
abbrev e(d a:ah)(n:Nat):=O d (.arith .eql 3 (T a) (I 3 n))
abbrev eu(d a:ah)(n:Nat):=O d (.arith .eql 2 (T a) (I 2 n))
abbrev f(d:ah):=O d (.bf (C (.bool false)))
abbrev tru(d:ah):=O d (.bf (C (.bool true)))
abbrev ld(d:ah)(n:Nat)(a:ah):=O d (.ee n (T a))
abbrev gm(d a g:ah)(b:Bool):=G d (.bf (T a)) g b
abbrev gl(d a g:ah)(b:Bool):=G d (.aW (T a)) g b
abbrev ga(d:ah)(n:Nat)(a g:ah)(b:Bool):=G d (.iX n (T a)) g b
abbrev u(d a b:ah):=O d (.arith .lss 3 (T a) (T b))
abbrev pl(d a:ah)(n:Nat):=O d (.arith .add 3 (T a) (I 3 n))
abbrev b(d:ah)(n:Nat)(a:ah):=O d (.box n (T a))
abbrev o(d a b:ah):=O d (.pick (T a) (C (.bool true)) (T b))
abbrev y(d a b:ah):=O d (.pick (T a) (T b) (C (.bool false)))
abbrev no(d a:ah):=O d (.unary .not (T a))
abbrev c(d:ah)(n:Nat)(l:List aJ):=O d (.call (C (.func n [] [])) l)
abbrev ex(d a:ah)(n:Nat):=O d (.extract (T a) n)
abbrev nc(d a:ah):=O d (.nilCheck (T a))
abbrev nl(d:ah):=O d (.bf (C .bj))
abbrev cT:=C (.bool true)
abbrev cF:=C (.bool false)
abbrev cN:=C .bj
abbrev r:=bw.region
abbrev S:=bw.seq
abbrev H:=bw.cond
abbrev Bl:=bw.block
abbrev Lp:=bw.loop
abbrev X:=bw.exit
abbrev q(l:List bD)(x:bw):bw:=.seq (.region l) x
abbrev t2:=T p2
abbrev XS:=T eD
abbrev XT:=T iF
abbrev XU:=T km
abbrev XV:=T lq
abbrev XW:=T pH
abbrev XX:=T rU
abbrev XY:=T pI
abbrev XZ:=T qH
abbrev X0:=T zU
abbrev X1:=T xF
abbrev X2:=T xG
abbrev X3:=T xJ
abbrev X4:=T rY
abbrev X5:=T tx
abbrev X6:=T uN
abbrev X7:=T uP
abbrev X8:=T uQ
abbrev X9:=T uR
abbrev X':=T uS
abbrev t46:=T rZ
abbrev Yb:=T og
abbrev Yc:=T tA
abbrev t51:=T xL
abbrev Ye:=T sa
abbrev Yf:=T sc
abbrev Yg:=T uY
abbrev Yh:=T uZ
abbrev Yi:=T xR
abbrev Yj:=T xV
abbrev Yk:=T xW
abbrev Yl:=T xX
abbrev Ym:=T xY
abbrev i0:=I 3 0
abbrev v0:=Go.al.i 3 0
end Y
open Y
def Yn:bw:=(q [b p2 24 p0,f p4] (S (q [ld eD 4 p2,c gQ 4 [XS],m iS gQ,gm iF p1 iS false,G km (.iY XT) iS false,G kU (.arith .gtr 3 XU (I 3 210)) iS false,o lq iS kU] (H XV (q [c lr 5 [],m p4 lr] .ret) .skip)) (q [ld pH 4 p2,c rT 6 [XW],O rU (.buildSlice 3 0 [v0] []),m pI p1,O tw (.append 3 8 1 [v0] false XX XY),O p5 (.alloc 24 [(.str []),v0,v0,.bj]),s 4 p5 rT,m p6 tw] (q [ld qH 4 p5,c qI 7 [XZ],m rV qI,ex qJ rV 0,ex uM rV 1,m p7 qJ,m p8 uM] (q [ld zU 4 p5,m xF p6,c uD 8 [X0,X1],m p9 uD] (S (q [ld xG 4 p5,ld xJ 4 p2,c xK 9 [X2,X3],no rX xK,m mi rX,gm rY p6 mi false,gm tx p1 mi false,G uN (.call (C (.func 10 [] [])) [X4,X5]) mi false,G uO (.unary .not X6) mi false,o uP mi uO] (H X7 (q [f p4] .ret) .skip)) (S (q [ld uQ 4 p2,c tz 11 [X8],m dS tz] (q [m uR dS,O uS (.arith .neq 3 X9 i0)] (H X' (q [m rZ p8,m og dS,O m8 (.arith .eql 3 t46 Yb),m na m8,gm tA p9 na true,gm xL dS na true,G xM (.arith .eql 3 Yc t51) na true,y uT na xM,m oh uT,gm sa p7 oh true,G sc (.iY Ye) oh true,G uU (.arith .eql 3 Yf i0) oh true,y uV oh uU,m uW uV,G xN (.call (C (.func 5 [] [])) []) uW true,y xP uW xN,m p4 xP] .ret) .skip))) (q [m xQ p8,e uX xQ 0,m qK uX,gm uY p7 qK true,G uZ (.ee 4 t2) qK true,G xR (.call (C (.func 12 [] [])) [Yh]) qK true,G xS (.call (C (.func 10 [] [])) [Yg,Yi]) qK true,y xU qK xS,m pJ xU,gm xV p9 pJ true,G xW (.ee 4 t2) pJ true,gm xX p1 pJ true,G xY (.call (C (.func 13 [] [])) [Yk,Yl]) pJ true,G xZ (.arith .eql 3 Yj Ym) pJ true,y x6 pJ xZ,m u6 x6,G BS (.call (C (.func 5 [] [])) []) u6 true,y BT u6 BS,m p4 BT] .ret))))))))
def Yo:aX:=.code 80 [.tmp p4] Yn
structure Tb(ac:Nat->aX):Prop where
 Yp:ac 3=Yo
 Yq:ac 4=Vf.1
 Yr:ac 6=TH.1
 KU:ac 7=UK.1
 KW:ac 8=Tv.1
 Ys:ac 9=TV.1
 Yt:ac 10=UY.1
 Yu:ac 11=VA.1
 Yv:ac 12=TS.1
 Yw:ac 13=VV.1
 ag1:ac 14=Uq.1
 ag2:ac 16=T5.1
 ag3:ac 17=Vq.1
 Yx:ac 20=Vc.1
 KX:ac 21=Tx.1
 Yy:ac 22=VK.1
 KY:ac 23=TM.1
 Yz:ac 24=VS.1
 YA:ac 25=Uu.1
 YB:ac 26=VM.1
 YC:ac 27=VX.1
 YD:ac 28=UB.1
 YE:ac 29=TR.1
 YG:ac 30=VI.1
 YH:ac 31=VH.1
 YI:ac 32=Ud.1
 YJ:ac 33=VT.1
 YK:ac 34=TK.1
 YL:ac 35=Tr.1
 YM:ac 36=T7.1
 ag4:ac 37=UG.1
 YO:ac 38=VQ.1
 ag5:ac 44=Vx.1
 ag6:ac 45=Tt.1
 YP:ac 46=TX.1
 ag7:ac 47=Uc.1
 ag8:ac 48=Uf.1
 YQ:ac 49=UP.1
 Fl:ac 52=Vm.1
 YR:ac 57=U5.1
 YS:ac 58=UC.1
 KZ:ac 59=Tq.1
 YT:ac 60=T6.1
 YU:ac 61=UE.1
 YV:ac 62=UL.1
 YW:ac 63=Uj.1
 YX:ac 64=Vg.1
 YY:ac 65=Vh.1
 YZ:ac 66=VO.1
 Y0:ac 67=TD.1
 Y1:ac 68=VU.1
 Y2:ac 69=VC.1
 Y3:ac 70=U6.1
 Y4:ac 71=Uy.1
 ag9:ac 72=UU.1
 Y5:ac 73=U1.1
 Y6:ac 74=Ui.1
 Y7:ac 75=Vi.1
 Y8:ac 76=Uh.1
 Y9:ac 78=TQ.1
 Y':ac 79=TA.1
 Fm:ac 81=UT.1
 Za:ac 98=TC.1
 Zb:ac 99=U7.1
 Zc:ac 100=T3.1
 Zd:ac 101=Tk.1
 K0:ac 102=US.1
 Ze:ac 103=UV.1
 Zf:ac 104=Vy.1
 Zg:ac 105=Uw.1
 Zh:ac 106=Uv.1
 Zi:ac 107=Vp.1
 Zj:ac 108=Vv.1
 Zk:ac 109=TI.1
 Zl:ac 110=Ug.1
 Zm:ac 111=VB.1
 Zn:ac 112=VE.1
 Zo:ac 113=VN.1
 Zp:ac 114=Un.1
 Zq:ac 115=TU.1
 Zr:ac 116=TF.1
 Zs:ac 117=Vj.1
 Zt:ac 118=Vs.1
 Zu:ac 119=Vw.1
 Zv:ac 127=VJ.1
 Zw:ac 128=VD.1
 K1:ac 129=TE.1
 Zx:ac 130=T'.1
 Zy:ac 131=UX.1
 Zz:ac 132=Ti.1
 ZA:ac 133=Us.1
 ZB:ac 134=Ua.1
 ZC:ac 135=VY.1
 ZD:ac 136=TO.1
 ZE:ac 137=Uo.1
 ZF:ac 138=Tw.1
 ZG:ac 159=VL.1
 ZH:ac 160=U'.1
 ZI:ac 161=TP.1
 K2:ac 162=VW.1
 ZJ:ac 163=Vk.1
 ZK:ac 164=UQ.1
 ZL:ac 165=TY.1
 ZM:ac 166=UW.1
 ZN:ac 167=Ts.1
 ZO:ac 168=UD.1
 ZP:ac 169=Ul.1
 ZQ:ac 170=TW.1
 ZR:ac 171=U0.1
 ZS:ac 172=Ve.1
 ZT:ac 181=Tu.1
 ZU:ac 182=UM.1
 K3:ac 183=UI.1
 ZV:ac 184=VG.1
 ZW:ac 185=Vo.1
 ZX:ac 186=VP.1
 ZY:ac 187=UA.1
 ZZ:ac 188=To.1
 Z0:ac 189=Tg.1
 Z1:ac 190=UZ.1
 Z2:ac 191=Ux.1
 Z3:ac 192=TJ.1
 Z4:ac 193=VF.1
 Z5:ac 194=UN.1
 Z6:ac 195=Va.1
 Z7:ac 196=Tp.1
 Z8:ac 197=U3.1
 Z9:ac 198=Up.1
 Z':ac 199=UJ.1
 aaa:ac 200=Tm.1
 aab:ac 201=Tj.1
 aac:ac 202=TT.1
 aad:ac 205=UO.1
 aae:ac 206=T2.1
 K4:ac 207=T0.1
 aaf:ac 208=UH.1
 aag:ac 209=Tl.1
 aah:ac 210=Ur.1
 aai:ac 211=Vr.1
 aaj:ac 212=TG.1
 aak:ac 213=U9.1
 aal:ac 214=U8.1
 aam:ac 215=Vn.1
 aan:ac 216=UF.1
 aao:ac 217=TB.1
 aap:ac 218=TL.1
 aaq:ac 219=UR.1
 aar:ac 220=Ub.1
 aas:ac 221=Vl.1
 aat:ac 222=Tz.1
 K5:ac 223=U2.1
 aau:ac 224=Vt.1
 aav:ac 225=TZ.1
 aaw:ac 226=Vb.1
 aax:ac 227=Um.1
 aay:ac 228=Vz.1
 aaz:ac 229=Ty.1
 K6:ac 230=U4.1
 aaA:ac 231=Vu.1
 aaB:ac 232=T8.1
 aaC:ac 233=TN.1
 aaD:ac 234=T4.1
 aaE:ac 235=Ut.1
 aaF:ac 236=Uz.1
 aaG:ac 238=T9.1
 aaH:ac 239=Tn.1
 aaI:ac 240=T1.1
 aaJ:ac 245=Uk.1
 aaK:ac 254=Ue.1
 Fq:ac 39=.ji zB
 aaL:ac 139=.ji zC
 aha:ac 1001=.eH uy
 aaM:ac 1002=.eH zy
 aaN:ac 1003=.eH zx
 aaO:ac 1004=.eH (EA 166)
 aaP:ac 1005=.eH (EB 166)
end Go.al.R
namespace Go.al.R
variable{B:List Th}{D:List SI}{E:Option ah}{V W:ai}{L Q n size:Nat}{F:List AV}{P:List bD}{Z:AV}{g:ah}{h:aJ}{p:Cx}{w:Kn}
section
variable{ac:Nat->aX}{b σ:Type}
def sd(agg:Bool)(cs:List AV):AV:=if agg then .agg cs else cs.headD .ai8
def zV(size:Nat)(agg:Bool)(x:aJ):bJ:=if agg then .ee size x else .aW x
theorem RO.K7{agg:Bool}(hc:F.length=Q)(h1:agg=false->Q=1)(hat:∀t v,F[t]?=some v->aY V g (n+t)=some v)(hrd:dE V g n Q=some F)(a:RO ac p P D (bo w E (sd agg F)) V)(hx:aT w h=.aD g n:=by exact cw):RO ac p (⟨E,zV Q agg h,none,[],[]⟩::P) D w V:=by
 cases agg with
 |true=>exact RO.ee a (hx:=hx) (hc:=hrd)
 |false=>
  have:=h1 rfl;subst this;obtain⟨v,rfl⟩:∃v,F=[v]:=by match F,hc with|[v],_=>exact⟨v,rfl⟩
  exact RO.aW a (hx:=hx) (hc:=hat 0 v rfl)
def oq(ac:Nat->aX)(A:ai)(fv:AV)(R:ai->b->List AV->Prop)(agg:Bool)(T:σ->List Th)(I:σ->Prop)(st:σ->b->Bool×σ)(la:List b):Prop:=
 ∀s a cs H us,a∈la->I s->R A a cs->ak A H (T s++us)->YF ac fv [sd agg cs] H λv H'=>v=.bool (st s a).1/\I (st s a).2/\∃c,ak A H' (T (st s a).2++c++us)
def ls(st:σ->b->Bool×σ):σ->List b->Nat->Option Nat×σ
 |s,[],_=>(none,s)
 |s,a::l,k=>if(st s a).1 then(some k,(st s a).2)else ls st (st s a).2 l (k+1)
def dM(st:σ->b->Bool×σ):σ->List b->Bool×σ
 |s,[]=>(true,s)
 |s,a::l=>if(st s a).1 then dM st (st s a).2 l else(false,(st s a).2)
theorem K8(st:σ->b->Bool×σ):∀(l:List b)(s:σ)(k:Nat),((ls (λs a=>(!(st s a).1,(st s a).2)) s l k).1.isSome=!(dM st s l).1)/\(ls (λs a=>(!(st s a).1,(st s a).2)) s l k).2=(dM st s l).2
 |[],s,k=>by simp[ls,dM]
 |a::l,s,k=>by
  simp only[ls,dM];cases h:(st s a).1;·simp
  simpa using K8 st l (st s a).2 (k+1)
def K9:Option Nat->AV
 |some k=>aN k
 |none=>.int 3 (.negSucc 0)
theorem aaQ(o:Option Nat):∃z,K9 o=aI z/\decide (0<=z)=o.isSome:=by cases o with|none=>exact⟨-1,rfl,rfl⟩|some k=>exact⟨.ofNat k,rfl,aC⟩
def Ft(ld:bJ)(size:Nat):bw:=(.seq (.region [O p4 (.bf (I 3 0))]) (.seq (.seq (.region [O p6 (.bf (T p0)),O p7 (.iY (T p6)),O p8 (.bf (I 3 0))]) (.block 0 (.loop (.seq (.region [O p9 (.arith .lss 3 (T p8) (T p7))]) (.seq (.cond (T p9) .skip (.exit 0)) (.seq (.block 1 (.seq (.region [O dS (.bf (T p8)),O p5 (.bf (T dS))]) (.seq (.region [O eD (.bf (T p1)),O gQ (.bf (T p0)),O iS (.bf (T p5)),O iF (.dH size (T gQ) (T iS)),O km ld,O kU (.call (T eD) [(T km)])]) (.cond (T kU) (.seq (.region [O lq (.bf (T p5)),O p4 (.bf (T lq))]) .ret) .skip)))) (.region [O lr (.arith .add 3 (T p8) (I 3 1)),O p8 (.bf (T lr))]))))))) (.seq (.region [O p4 (.bf (J 3 0))]) .ret)))
theorem aaR{agg:Bool}(u:ac n=.code L [.tmp p4] (Ft (zV Q agg (al.T iF)) Q))(C:2<=L)(h1:agg=false->Q=1){sv:AV}{R:ai->b->List AV->Prop}{T:σ->List Th}{I:σ->Prop}{st:σ->b->Bool×σ}{la:List b}{s:σ}(D:Z.bk=true)(p:oq ac V Z R agg T I st la)(w:∀a cs,R V a cs->(sd agg cs).bk=true)(hs:cQ Q R V la sv)(hl:la.length<=1000000)(m:I s)(U:ak V W (T s++B)){K:KT}(q:∀f d,I (ls st s la 0).2->ak V f (T (ls st s la 0).2++d++B)->K (K9 (ls st s la 0).1) f):YN ac n [sv,Z] W K:=by
 have⟨hd,_,_,F⟩:=hs.all;refine YF.code u (by simp;omega) ?_;refine au ?_;refine Ru.nm λS M x r=>Ru.bH r (up (P:=λk=>∀g h,ls st h (la.drop k) k=ls st s la 0->I h->(∃d,ak V g (T h++d++B))->Ru ac _ S ([(p8,aN k)]++pk M [p0,p1,p7]) g) la.length (λk G y g h c m U=>?_) 0 aa _ s rfl m ⟨[],by simpa using U⟩);subst x;subst r;refine Ru.loop (au ?_);refine Ru.cond (λe=>?_) (λe=>?_)
 .rw[ahp e]at c;simp only[ls]at c;obtain⟨d,U⟩:=U;refine au ?_;refine RO.bL U.gr hs λJ o1 cs hj t z hat hrd=>?_;have E:=w _ _ t;refine RO.K7 z h1 hat hrd (RO.cl ((p h la[k] cs g (d++B) (abO e) m t (by simpa using U)).mono ?_));rintro v f⟨rfl,i,j,l⟩;refine au ?_;refine Ru.d9 (λo=>?_) (λo=>?_);·rw[o]at c;simp only[bg]at c;refine au ?_;refine Ru.aL ?_;have:=q f (j++d) (by rw[<-c];exact i) (by rw[<-c];simpa using l);rw[<-c]at this;exact this
  rw[o]at c;simp only[abH,bF]at c;refine au ?_;exact Ru.wk (y (k+1) aa aa f _ c i ⟨j++d,by simpa using l⟩)
 rw[List.drop_of_length_le aa]at c;simp only[ls]at c;obtain⟨d,U⟩:=U;refine Ru.exitTo ?_;refine au ?_;refine Ru.aL ?_;have:=q g d (by rw[<-c];exact m) (by rw[<-c];exact U);rw[<-c]at this;exact this
def La(g:Nat):bw:=(.seq (.region [O p4 (.bf (C (.bool false)))]) (.seq (.region [O p5 (.bf (T p0)),O p6 (.bf (T p1)),O p7 (.call (C (.func g [] [])) [(T p5),(T p6)]),O p8 (.arith .geq 3 (T p7) (I 3 0)),O p4 (.bf (T p8))]) .ret))
def aaS(e cl a:Nat):bw:=(.seq (.region [O p3 (.box e (T p1)),O p4 (.bf (C (.bool false)))]) (.seq (.region [O p5 (.bf (T p0)),O p6 (.k6 cl [] [(T p3)]),O p7 (.call (C (.func a [] [])) [(T p5),(T p6)]),O p8 (.unary .not (T p7)),O p4 (.bf (T p8))]) .ret))
def aaT:bw:=(.seq (.region [O p3 (.bf (C (.bool false)))]) (.seq (.region [O p4 (.aW (T p1)),O p5 (.bf (T p0)),O p6 (.call (T p4) [(T p5)]),O p7 (.unary .not (T p6)),O p3 (.bf (T p7))]) .ret))
def aaU(t n:Nat):bw:=(.seq (.region [O p2 (.box t (T p0)),O p3 (.bf (C (.bool false)))]) (.seq (.region [O p4 (.aW (T p1)),O p5 (.ee n (T p2)),O p6 (.call (T p4) [(T p5)]),O p7 (.unary .not (T p6)),O p3 (.bf (T p7))]) .ret))
section
variable{sv:AV}{R:ai->b->List AV->Prop}{T:σ->List Th}{I:σ->Prop}{st:σ->b->Bool×σ}{la:List b}{s:σ}{us:List Th}
theorem aaV{mt:Nat}{agg:Bool}(j:ac n=.code mt [.tmp p4] (La L))(q:2<=mt)(hg:ac L=.code size [.tmp p4] (Ft (zV Q agg (al.T iF)) Q))(e:2<=size)(h1:agg=false->Q=1)(f:Z.bk=true)(g:oq ac V Z R agg T I st la)(k:∀a cs,R V a cs->(sd agg cs).bk=true)(hs:cQ Q R V la sv)(hl:la.length<=1000000)(l:I s)(U:ak V W (T s++us)){K:KT}(m:∀c d,I (ls st s la 0).2->ak V c (T (ls st s la 0).2++d++us)->K (.bool (ls st s la 0).1.isSome) c):YN ac n [sv,Z] W K:=by have⟨hd,_,_,r⟩:=hs.all;refine YF.code j (by simp;omega) ?_;refine au ?_;refine RO.cl (aaR hg e h1 f g k hs hl l U λc d h i=>?_);have⟨z,o,p⟩:=aaQ (ls st s la 0).1;rw[o];refine RO.geq (b:=0) ?_;rw[p];refine au ?_;exact Ru.aL (m c d h i)
theorem zW{o mt p e cl:Nat}{agg:Bool}(r:ac Q=.code p [.tmp p4] (aaS e cl n))(z:2<=p)(hg:ac n=.code mt [.tmp p4] (La L))(j:2<=mt)(t:ac L=.code o [.tmp p4] (Ft (zV size agg (al.T iF)) size))(k:2<=o)(h1:agg=false->size=1)(B:Z.bk=true)(l:Z.cY=true)(c:Z.cells=[Z])(m:∀q,oq ac V (.func cl [] [.aD q 0]) R agg (λs=>tB e q [Z]::T s) I (λs a=>(!(st s a).1,(st s a).2)) la)(u:∀a cs,R V a cs->(sd agg cs).bk=true)(hs:cQ size R V la sv)(hl:la.length<=1000000)(v:I s)(U:ak V W (T s++us)){K:KT}(w:∀h i,I (dM st s la).2->ak V h (T (dM st s la).2++i++us)->K (.bool (dM st s la).1) h):YN ac Q [sv,Z] W K:=by have⟨hd,_,_,C⟩:=hs.all;have⟨x,y⟩:=K8 st la s 0;refine YF.code r (by simp;omega) ?_;refine au ?_;refine RO.bZ U (λD q d=>?_) (ho:=by rw[c];exact ao l rfl);rw[c]at d;refine au ?_;refine RO.cl (aaV hg j t k h1 rfl (m q) u hs hl v d λh i f g=>?_);rw[x];refine au ?_;rw[y]at f g;refine Ru.aL ?_;rw[Bool.not_not];exact w h i f g.tail
theorem Fu(h:ac Q=.code n [.tmp p3] aaT)(l:2<=n)(m:Z.bk=true)(i:∀a cs,R V a cs->(sd false cs).bk=true)(c:oq ac V Z R false T I st la)(q:ah):oq ac V (.func Q [] [.aD q 0]) R false (λs=>tB L q [Z]::T s) I (λs a=>(!(st s a).1,(st s a).2)) la:=by intro s a cs W us j k g U;have o:=i a cs g;refine YF.code h (by simp;omega) ?_;refine aS ?_;refine RO.cl ((c s a cs W (tB L q [Z]::us) j k g U.BO).mono ?_);rintro v p⟨rfl,d,e,f⟩;refine aS ?_;exact Ru.aL ⟨rfl,d,e,by have:=f.tq;simpa using this⟩
theorem Lb{i:Nat}(l:ac size=.code i [.tmp p3] (aaU L Q))(r:2<=i)(t:Z.bk=true)(m:∀a cs,R V a cs->cs.length=Q/\cU cs=true)(e:oq ac V Z R true T I st la)(q:ah):oq ac V (.func size [] [.aD q 0]) R true (λs=>tB n q [Z]::T s) I (λs a=>(!(st s a).1,(st s a).2)) la:=by intro s a cs W us hm o j U;have⟨c,k⟩:=m a cs j;refine YF.code l (by simp;omega) ?_;refine au ?_;refine RO.bZ U (λp d U=>au ?_) (v:=.agg cs);refine RO.eo U 1 ?_;refine RO.bT U 0 (m:=Q) ?_ (hm:=by show 0+Q<=cs.length;omega);rw[show((AV.agg cs).cells.drop 0).take Q=cs by show(cs.drop 0).take Q=cs;rw[aiX,<-c,aid]];refine RO.cl ((e s a cs p (tB L d cs::tB n q [Z]::us) hm o j (ak.dK (xs:=[tB L d cs,tB n q [Z]]) U)).mono ?_);rintro v u⟨rfl,f,g,h⟩;refine aS ?_;exact Ru.aL ⟨rfl,f,g,by have:=(ak.jd (xs:=[tB L d cs,tB n q [Z]]) h).tail;simpa using this⟩
end
end
end Go.al.R
namespace Go.al
variable{B ts v ws xs:List Th}{D:List SI}{E:Option ah}{V W:ai}{L Q n size:Nat}{F vs:List AV}{P:List bD}{Z sv:AV}{g:ah}{h:aJ}{p:Cx}{Dn d:cC->List Th->Prop}{t:List Th->Prop}{w:Kn}{A:List Value}
section
def tX(q:ah)(o:bR):Th where
 P H a:=q∈a/\(∀j∈a,j=q)/\H.get q=o/\q.ap<H.next.ap
 fr h b hg:=⟨h.1,h.2.1,by rw[hg _ h.1];exact h.2.2.1,ahC h.2.2.2 b⟩
 lt h:=by intro j hj;rw[h.2.1 j hj];exact h.2.2.2
variable{H:ai}{q:ah}{o:bR}
variable{ac:Nat->aX}{L:Kn}
theorem ak.x7(U:ak V H B)(o:bR):ak V (H.new o) (tX H.next o::B):=U.push (fp:=[H.next]) (aR.new H o) ⟨abt.2 rfl,λj hj=>abt.1 hj,by rw[ai.cL,aF rfl],by rw[ai.lm];omega⟩ (rS H)
theorem ak.pK(U:ak V H B)(i:Nat)(hi:B[i]?=some (tX q o))(o':bR):ak V (H.set q o') (B.set i (tX q o')):=by
 have⟨b,a,_,hu⟩:=U.iQ i hi;refine hu (fp':=[q]) ⟨Nat.le_of_eq (by rw[ai.eK]),λj hj=>?_,λj hj f=>?_⟩ ⟨abt.2 rfl,λj hj=>abt.1 hj,by rw[ai.aG,aF rfl],by rw[ai.eK];exact a.2.2.2⟩;·rw[abt]at hj;subst hj;exact .inl a.1
 rw[ai.aG,an λe:j=q=>hj (by rw[e];exact a.1)]
theorem ak.nf(U:ak V H B)(i:Nat)(hi:B[i]?=some (tX q o)):H.get q=o:=by have⟨b,a⟩:=U.get i hi;exact a.2.2.1
theorem RO.pV(U:ak W H B){t:List Nat}(e:∀V q,ak W V (tX q (.kz t t 0)::B)->RO ac p P D (bo L E (.aD q 0)) V)(b:aT L h=.str t:=by exact cw):RO ac p (⟨E,.pV h,none,[],[]⟩::P) D L H:=RO.op (λaf a=>by simp only[aH,a.gv b rfl]) (e _ _ (U.x7 _))
theorem RO.aaW(U:ak V H B)(i:Nat){t:List Nat}(e:RO ac p P D (bo L E (.tuple [.bool false])) H)(hi:B[i]?=some (tX q (.kz t [] Q)):=by rfl)(b:aT L h=.aD q 0:=by exact cw):RO ac p (⟨E,.sA h,none,[],[]⟩::P) D L H:=RO.op (λaf a=>by simp only[aH,a.gv b rfl,U.nf i hi]) e
theorem RO.aaX(U:ak W H B)(i:Nat){t r:List Nat}(hb:Q<128)(e:∀V,ak W V (B.set i (tX q (.kz t r (n+1))))->RO ac p P D (bo L E (.tuple [.bool true,.int 3 (.ofNat n),.int 2 (.ofNat Q)])) V)(hi:B[i]?=some (tX q (.kz t (Q::r) n)):=by rfl)(b:aT L h=.aD q 0:=by exact cw):RO ac p (⟨E,.sA h,none,[],[]⟩::P) D L H:=RO.op (λaf a=>by simp only[aH,a.gv b rfl,U.nf i hi,show ahO Q 128=true from ai5 aib hb,bg]) (e _ (U.pK i hi _))
theorem RO.aaY(U:ak W H B)(i:Nat){t r:List Nat}(hb:¬n<128)(f:∀V,ak W V (B.set i (tX q (.kz t (t.drop (Q+(u8 t Q).2)) (Q+(u8 t Q).2))))->RO ac p P D (bo L E (.tuple [.bool true,.int 3 (.ofNat Q),.int 2 (.ofNat (u8 t Q).1)])) V)(hi:B[i]?=some (tX q (.kz t (n::r) Q)):=by rfl)(b:aT L h=.aD q 0:=by exact cw):RO ac p (⟨E,.sA h,none,[],[]⟩::P) D L H:=RO.op (λaf a=>by simp only[aH,a.gv b rfl,U.nf i hi,show ahO n 128=false from Bool.eq_false_iff.2 λe=>hb (Eq.mp aib e),abH,bF]) (f _ (U.pK i hi _))
theorem aaZ{t:List Nat}(hb:∀x∈t,x<256)(a:Q<t.length)(h:128<=t[Q]):128<=(u8 t Q).1/\(u8 t Q).1<=2147483647:=by
 unfold u8;have hs:Q<(ByteArray.mk (t.map ai0).toArray).size:=by simpa[ByteArray.size]using a
 refine⟨(decode_high _ _ hs ?_).1,decode_le _ _⟩;have:((ByteArray.mk (t.map ai0).toArray)[Q]'hs).toNat=t[Q]:=by show(((t.map ai0).toArray)[Q]'(by simpa using a)).toNat=t[Q];have:=hb _ (abO a);simp;omega
 rw[this];exact h
theorem RO.aa0(U:ak W H B)(h:∀V q,ak W V (tX q (.map [] 0)::B)->RO ac p P D (bo L E (.map q)) V):RO ac p (⟨E,.ky,none,[],[]⟩::P) D L H:=RO.ky (h _ _ (U.x7 _))
theorem RO.aa1(U:ak W H B)(i:Nat){e:dB}{k w:aJ}{kv:AV}{es:List aV}(t:∀V,ak W V (B.set i (tX q (.map (es++[⟨kv,Z,Q⟩]) (Q+1))))->RO ac p P D (bo L E .ai8) V)(hi:B[i]?=some (tX q (.map es Q)):=by rfl)(g:aT L h=.map q:=by exact cw)(j:aT L k=kv:=by exact cw)(m:aT L w=Z:=by exact cw)(b:kv.bk=true:=by first|rfl|assumption)(f:Z.bk=true:=by first|rfl|assumption)(n:iH e kv=true:=by rfl)(r:findKey e kv es 0=some none:=by rfl):RO ac p (⟨E,.jK e h k w,none,[],[]⟩::P) D L H:=RO.op (λaf a=>by simp only[aH,a.gv g rfl,a.gv j b,a.gv m f,n,ahN,abH,bF,U.nf i hi,r]) (t _ (U.pK i hi _))
theorem RO.Lc(U:ak V H B)(i:Nat){e:dB}{k:aJ}{es:List aV}{r:Option (Nat×AV)}(f:findKey e Z es 0=some r)(n:RO ac p P D (bo L E (.tuple (match r with|some t=>[t.2,.bool true]|none=>[sv,.bool false]))) H)(hi:B[i]?=some (tX q (.map es Q)):=by rfl)(g:aT L h=.map q:=by exact cw)(j:aT L k=Z:=by exact cw)(b:Z.bk=true:=by first|rfl|assumption)(m:iH e Z=true:=by rfl):RO ac p (⟨E,.lookup e sv true h k,none,[],[]⟩::P) D L H:=RO.op (λaf a=>by simp only[aH,a.gv g rfl,a.gv j b,m,ahN,abH,bF,U.nf i hi,f,bg];cases r<;>rfl) n
theorem ev{af:az AV}{i:ah}{o:Nat}{v:AV}{re:List gN}(b:Le L af)(j:aT L h=.aD i o)(k:lk L g=v)(hd:v.bk=true)(hs:eV v v=true)(a:aY H i o=some v)(m:dQ af H re=true):dQ af H (⟨g,.aW h,none⟩::re)=true:=by
 have e:gW H (.aD i o) 1 false=some v:=by
  unfold aY at a;split at a
  .rename_i cc n _ _ _ _ hg;split at a;·rename_i hb;injection a with a;have f:o<n:=aib.mp hb;simp only[gW,dE,hg,fZ,aF f,a,abH,bF];rfl
   cases a
  cases a
 simp only[dQ,d8,bg,aH,b.gv j rfl,e,ahQ,b.get k hd,hs,m,ai1]
theorem RO.BZ{args:List aJ}{x:aJ}{i:ah}{o:Nat}{v:AV}(t:YF ac Z F H λr V=>aY V i o=some v/\RO ac p P D (bo L E r) V)(j:∀r,aT (bo L E r) x=.aD i o:=by(intro r;conv=>lhs;whnf)<;>rfl)(k:∀r,lk (bo L E r) g=v:=by(intro r;conv=>lhs;whnf)<;>rfl)(a:v.bk=true:=by first|rfl|assumption)(hvs:eV v v=true:=by first|rfl|assumption|simp[eV,cD,dW])(m:aT L h=Z:=by exact cw)(b:Z.bk=true:=by first|rfl|assumption)(n:args.map (aT L)=F:=by rfl)(e:F.all AV.bk=true:=by repeat first|rfl|assumption|(refine ad ?_ ?_)):RO ac p (⟨E,.call h args,none,[],[⟨g,.aW x,none⟩]⟩::P) D L H:=RO.EY (t.mono λr V t=>⟨λaf f=>ev f (j r) (k r) a hvs t.1 rfl,t.2⟩) m b n e
def qL(L:Kn)(H:ai):List gO->List AV->Prop
 |[],[]=>True
 |.tmp p::a,v::b=>lk L p=v/\v.bk=true/\qL L H a b
 |.cell p agg n::a,v::b=>(∃q o,lk L p=.aD q o/\gW H (.aD q o) n agg=some v)/\qL L H a b
 |_,_=>False
theorem qL.uH{af:az AV}(a:Le L af):∀{b:List gO}{e:List AV},qL L H b e->fH af H b=some e|[],[],_=>rfl|.tmp p::b,v::e,h=>by simp only[fH,qL.uH a h.2.2,ahQ,a.get h.1 h.2.1]|.cell p agg n::b,v::e,h=>by have⟨⟨q,o,h1,h2⟩,h3⟩:=h;simp only[fH,qL.uH a h3,a.get h1 rfl,h2]|[],_::_,h=>h.elim|.tmp _::_,[],h=>h.elim|.cell .. ::_,[],h=>h.elim
theorem RJ.aa2{j:cC}{b:List gO}{K:KT}(hj:j=.none\/j=.ret)(e:qL L H b F)(h:K (gC F) H):RJ ac (tl b K) j [] L H:=λaf a=>by have:=e.uH (H:=H) a;rcases hj with rfl|rfl<;>simp only[iP,mc,iI,this]<;>exact h
theorem Ru.je{a:List gO}{K:KT}(b:qL L H a vs)(h:K (gC vs) H):Ru ac (tl a K) (.code .ret::D) L H:=Ru.ret (RJ.rQ (RJ.aa2 (.inr rfl) b h))
theorem ak.agg(U:ak V H B)(i:Nat)(hi:B[i]?=some (tB n q F):=by rfl)(a:F.length=Q:=by rfl):gW H (.aD q 0) Q true=some (.agg F):=by subst a;have⟨e,b⟩:=U.get i hi;have:=tB.kl (o:=0) (m:=F.length) b aa;simp only[gW,this,bg,aiX,aid]
theorem ak.one(U:ak V H B)(i:Nat)(hi:B[i]?=some (tB Q q [Z]):=by rfl):gW H (.aD q 0) 1 false=some Z:=by have⟨b,a⟩:=U.get i hi;have:=tB.kl (o:=0) (m:=1) a aC;simp only[gW,this,abH,bF];rfl
end
section
variable{ac:Nat->aX}
section
def Body(ac:Nat->aX)(A:ai)(y:AV)(m:Nat)(E:Nat->List AV->List Th->Prop)(J:Nat->List Th->Prop)(D:List Th->Prop):Prop:=
 ∀k args b c us H,k<m->E k args b->J k c->ak A H (b++c++us)->YF ac y args H λv H'=>∃a,ak A H' (a++us)/\(v=.bool true/\J (k+1) a\/v=.bool false/\D a)
def vm(ac:Nat->aX)(A:ai)(fv:AV)(m:Nat)(E:Nat->List AV->List Th->Prop)(c:List Th)(d Kp:ai->Prop):Prop:=
 ∀y J D b us H(K:KT),y.bk=true->y.cY=true->y.cells=[y]->(∀k b us H,J k b->ak A H (b++us)->Kp H)->Body ac A y m E J D->J 0 b->ak A H (c++b++us)->d H->(∀H' a v,ak A H' (a++us)->(J m a\/D a)->K v H')->YF ac fv [y] H K
def yi:List ah->List AV->Kn->Kn
 |p::a,v::b,L=>yi a b ((p,v)::L)
 |_,_,L=>L
theorem Le.pr:∀{a:List ah}{b:List AV}{L:Kn}{af:az AV},Le L af->Le (yi a b L) (lZ a b af)|[],_,_,_,h=>by trivial|p::a,[],_,_,h=>by trivial|p::a,v::b,L,af,h=>by simp only[yi,lZ];exact Le.pr (h.set (some p) v)
def vn(A:ai)(l:ah)(o2:bR)(us:List Th)(J:List Th->Prop)(Dn:cC->List Th->Prop)(j:cC)(_:Fr)(H':ai):Prop:=
 ∃a,ak A H' (a++tX l o2::us)/\match j with
  |.none=>J a
  |j=>Dn j a
def Lr(ac:Nat->aX)(l:ah)(o1 o2:bR)(body:bw)(K:cC->Fr->ai->Prop)(j:cC)(fr:Fr)(H1:ai):Prop:=
 j=.none/\H1.get l=o1/\∃n,Xc ac n body fr (H1.set l o2) K
abbrev Ac(A:ai)(l:ah)(o2:bR)(us:List Th)(J:List Th->Prop)(Dn:cC->List Th->Prop):Cx:=⟨vn A l o2 us J Dn,[],some l⟩
abbrev B7(ac:Nat->aX)(l:ah)(o1 o2:bR)(body:bw)(K:cC->Fr->ai->Prop):Cx:=⟨Lr ac l o1 o2 body K,[],some l⟩
variable{o1 o2:bR}{body:bw}
theorem Ru.cX(U:ak V W (xs++tX g o1::B))(h:∀b,ak V b (xs++tX g o2::B)->Ru ac (Ac V g o2 B t d) [.code body] w b):Ru ac (B7 ac g o1 o2 body (vn V g o2 B t d)) [] w W:=λaf a=>by have hi:(xs++tX g o1::B)[xs.length]?=some (tX g o1):=aC;have h2:=U.pK xs.length hi o2;have e:(xs++tX g o1::B).set xs.length (tX g o2)=xs++tX g o2::B:=aC;rw[e]at h2;have⟨n,c⟩:=h _ h2 af a;exact⟨rfl,U.nf xs.length hi,n,c.mono (aeE _) λ_ _ _ h=>h⟩
theorem Ru.bx(U:ak V W (ts++tX g o2::B))(a:t ts):Ru ac (Ac V g o2 B t d) [] w W:=λ_ _=>⟨ts,U,a⟩
theorem RJ.bx{j:cC}(U:ak V W (ts++tX g o2::B))(hj:j≠.none)(a:d j ts):RJ ac (Ac V g o2 B t d) j [] w W:=λ_ _=>⟨ts,U,by grind⟩
theorem Ru.Ad(U:ak V W (ts++tX g o2::B))(a:d .ret ts):Ru ac (Ac V g o2 B t d) (.code .ret::D) w W:=Ru.ret (RJ.rQ (RJ.bx U aC a))
theorem Ls{a b:Th}:(a::b::(B++v++ts)).Perm (B++(a::v)++(b::ts)):=by have h1:(B++(a::v)++(b::ts)).Perm (b::(B++(a::v)++ts)):=ahy;have h2:(B++(a::v)++ts).Perm (a::(B++v++ts)):=(ahy (l₁:=B)).append_right ts;exact((h1.trans (h2.cons b)).trans (ah5 a b _)).symm
theorem FC{a:Th}:(ws++(a::ts)++B).Perm (ws++ts++a::B):=by have h1:(ws++ts++a::B).Perm (a::(ws++ts++B)):=ahy;have h2:(ws++(a::ts)++B).Perm (a::(ws++ts++B)):=(ahy (l₁:=ws)).append_right B;exact h2.trans h1.symm
theorem Lt{af:az AV}{b:List ah}{cX body:bw}{c:ah}{Q:KT}(f:V.get g=.loop .ready .none 0 af b cX body c)(i:F.length=b.length)(n:iP ac (Lr ac g (.loop .ready .none 0 af b cX body c) (.loop .busy .none 0 af b cX body c) body (vn W g (.loop .busy .none 0 af b cX body c) B t d)) [.code cX] .none ⟨lZ b F af,[],some g⟩ V)(v:∀e a,ak W e (a++tX g (.loop .busy .none 0 af b cX body c)::B)->t a->Q (.bool true) (e.set g (.loop .ready .none 0 af b cX body c)))(hd:∀j e a,j≠.none->ak W e (a++tX g (.loop .busy .none 0 af b cX body c)::B)->d j a->Q (.bool false) (e.set g (.loop .done j 0 af b cX body c))):YF ac (.yield g) F V Q:=by have⟨o,q⟩:=n;obtain⟨m,s⟩:=(xx ac o).exec (K:=λm j fr p=>j=.none/\p.get g=.loop .ready .none 0 af b cX body c/\Xc ac m body fr (p.set g (.loop .busy .none 0 af b cX body c)) (vn W g (.loop .busy .none 0 af b cX body c) B t d)) (λm w j fr V r h=>⟨h.1,h.2.1,h.2.2.mono r λ_ _ _ h=>h⟩) ((mono ac o).exec (aeE _) (λj fr V h=>by have⟨h1,h2,k,h3⟩:=h;grind) q);refine⟨max o m+1,?_⟩;simp only[Xf,fC,f,aF i];refine(show Xc ac o cX _ V _ from s).mono (Nat.le_max_left ..) λj fr p h=>?_;obtain⟨rfl,h2,h3⟩:=h;simp only[h2];refine h3.mono (Nat.le_max_right ..) λj _ e h=>?_;have⟨a,u,x⟩:=h;have y:e.get g=.loop .busy .none 0 af b cX body c:=u.nf a.length aC;grind
theorem Ru.mq{K:cC->Fr->ai->Prop}{M:List ah}{b:List ah}{cX body:bw}{E:Nat->List AV->List Th->Prop}{X Kp:ai->Prop}{J:Nat->List Th->Prop}(U:ak W V (v++ts++B))(hI:vm ac W Z Q E v X Kp)(hR:∀I,aR V I->X I)(hJ:J 0 ts)(hE:∀k args p,E k args p->args.length=b.length)(N:∀k c B V,J k c->ak W V (c++B)->Kp V)(hB:∀k args p c B g o1 o2 V,k<Q->E k args p->J k c->ak W V (p++c++tX g o1::B)->Ru ac (B7 ac g o1 o2 body (vn W g o2 B (J (k+1)) Dn)) [.code cX] (yi b args w) V)(z:∀f a t,J Q a->ak W f (a++tX t (.deferred false)::B)->Ru ac ⟨K,t::M,none⟩ D w f)(C:∀j f a t,j≠.none->Dn j a->ak W f (a++tX t (.deferred false)::B)->RJ ac ⟨K,t::M,none⟩ j D w f)(hf:aT w h=Z:=by exact cw)(O:Z.bk=true:=by first|rfl|assumption):Ru ac ⟨K,M,none⟩ (.code (.rangeFunc h b cX body)::D) w V:=by
 intro af o;have P:=U.x7 (.deferred false);have q:=P.x7 (.loop .ready .none 0 af b cX body V.next);have r:=q.bO Ls;have u:aR V ((V.new (.deferred false)).new (.loop .ready .none 0 af b cX body V.next)):=(aR.new V _).trans (aR.new _ _);generalize hl:(V.new (.deferred false)).next=g at q r;generalize R:((V.new (.deferred false)).new (.loop .ready .none 0 af b cX body V.next))=I at q r u;have key:=hI (.yield g) (λk a=>∃c,a=tX g (.loop .ready .none 0 af b cX body V.next)::c/\J k c) (λa=>∃c j,j≠.none/\a=tX g (.loop .done j 0 af b cX body V.next)::c/\Dn j c) _ _ I (λ_ f=>match f.get g with
  |.loop st bU fn F b aw bd d=>match st with|.busy=>False|_=>iP ac K D bU ⟨af,V.next::M,none⟩ (f.set g (.loop .exhausted bU fn F b aw bd d))
  |_=>False) rfl rfl rfl (by rintro k _ i f⟨c,rfl,s⟩S;exact N k c _ f s S.BO) ?_ ⟨ts,rfl,hJ⟩ r (hR _ u) ?_;·have⟨n,hn⟩:=key;refine⟨n+1,?_⟩;simp only[Xc,exec];rw[hl,R,o.gv hf O];exact hn
 .rintro k args p _ i Y hk x⟨c,rfl,s⟩m;have y:=m.bO FC;have e:Y.get g=.loop .ready .none 0 af b cX body V.next:=y.nf (p++c).length aC;have G:=hB k args p c i g _ (.loop .busy .none 0 af b cX body V.next) Y hk x s y (lZ b args af) o.pr;refine Lt e (hE _ _ _ x) G (λf a h1 h2=>⟨tX g _::a,?_,.inl ⟨rfl,a,rfl,h2⟩⟩) (λj f a hj h1 h2=>⟨tX g _::a,?_,.inr ⟨rfl,a,j,hj,rfl,h2⟩⟩);·have:=h1.pK (q:=g) (o:=.loop .busy .none 0 af b cX body V.next) a.length aC (.loop .ready .none 0 af b cX body V.next);rw[show(a++tX g (.loop .busy .none 0 af b cX body V.next)::i).set a.length (tX g (.loop .ready .none 0 af b cX body V.next))=a++tX g (.loop .ready .none 0 af b cX body V.next)::i by simp]at this;exact this.tq
  have:=h1.pK (q:=g) (o:=.loop .busy .none 0 af b cX body V.next) a.length aC (.loop .done j 0 af b cX body V.next);rw[show(a++tX g (.loop .busy .none 0 af b cX body V.next)::i).set a.length (tX g (.loop .done j 0 af b cX body V.next))=a++tX g (.loop .done j 0 af b cX body V.next)::i by simp]at this;exact this.tq
 rintro f _ ag m(⟨c,rfl,T⟩|⟨c,j,hj,rfl,hD⟩);·have e:=m.nf 0 rfl;simp only[e];exact z _ c _ T (m.pK 0 rfl _).tail af o
 have e:=m.nf 0 rfl;simp only[e];exact C j _ c _ hj hD (m.pK 0 rfl _).tail af o
end
section
def tR(size:Nat)(vs:List AV)(n:Nat)(v:AV):Th where
 P H b:=Sl H size vs n v/\(∀i o m c e,v=.slice i o m c e->i∈b)/\∀j∈b,j.ap<H.next.ap
 fr:=by
  rintro H H' b⟨h1,h2,h3⟩g hg
  refine⟨?_,h2,λj hj=>ahC (h3 j hj) g⟩
  rcases h1 with h|⟨i,o,cap,ex,c,m,e,f,aK,fz,k,p,a⟩
  .exact .inl h
  .exact .inr ⟨i,o,cap,ex,c,m,e,f,aK,fz,k,by rw[hg i (h2 _ _ _ _ _ k)];exact p,a.1,a.2.1,a.2.2.1,ahC a.2.2.2.1 g,a.2.2.2.2⟩
 lt h:=h.2.2
def tZ(F:List Th):Th where
 P H a:=(∀t∈F,∃f,(∀j∈f,j∈a)/\t.P H f)/\∀j∈a,j.ap<H.next.ap
 fr:=by
  rintro H H' a⟨h1,h2⟩b hg
  refine⟨λt i=>?_,λj hj=>ahC (h2 j hj) b⟩
  have⟨f,g,k⟩:=h1 t i
  exact⟨f,g,t.fr k b λj hj=>hg j (g j hj)⟩
 lt h:=h.2
variable{H H':ai}{t t':Th}{e size n o m:Nat}{ws:List AV}{full:Bool}{q:ah}
theorem ak.lQ(U:ak V H B):ak V H (tZ []::B):=by have h0:(tZ []).P H []:=⟨λt h=>absurd h aC,λQ h=>absurd h aC⟩;exact U.push (aR.refl H) h0 λQ h=>absurd h aC
theorem ak.ie(U:ak V H (t::tZ v::B)):ak V H (tZ (t::v)::B):=by
 have⟨g,a,i⟩:=U;match a,i with
  |k::p::a,⟨h1,h2,h3,b,x,z,y⟩=>
   refine⟨g,(k++p)::a,⟨λu hu=>?_,λQ hj=>?_⟩,λQ hj=>?_,λQ hj f C=>?_,y⟩
   .rcases ac2.1 hu with rfl|hu;·grind
    have⟨f,D,E⟩:=b.1 u hu;grind
   .rcases ac6.1 hj with h|h;·exact t.lt h1 Q h
    exact b.2 Q h
   .rcases ac6.1 hj with h|h;·exact h2 Q h
    exact x Q h
   grind
theorem ak.jr(U:ak V H B)(i:Nat)(hi:B[i]?=some (tZ v))(a:t∈v):∃f,t.P H f:=by have⟨g,b⟩:=U.get i hi;have⟨f,_,h⟩:=b.1 t a;grind
theorem ak.Lu(U:ak V H (tZ B::v))(b:t∈B)(h:∀f,t.P H f->t'.P H f):ak V H (tZ (t'::B)::v):=by
 refine U.as 0 rfl λg a=>⟨λu hu=>?_,a.2⟩;rcases ac2.1 hu with rfl|hu;·have⟨f,i,j⟩:=a.1 t b;grind
 exact a.1 u hu
theorem tS.iu{a:List ah}(h:(tS e size F n full Z).P H a):(tR size F n Z).P H a:=by refine⟨cO.sl h,λQ o m c ex f=>?_,cO.below h⟩;rcases h with⟨_,_,_,h⟩|⟨g,j,aK,cap,b,rfl,h2,_⟩;all_goals grind
theorem Fs.kh:∀{fs:List (List ah)}{B:List Th}{Q L:Nat},Fs V H fs B->B[Q]?=some t->B[L]?=some t'->Q<L->∃f g,t.P H f/\t'.P H g/\∀p∈f,p∉g|[],[],Q,_,_,h,_,_=>by grind|[],_::_,_,_,h,_,_,_=>h.elim|_::_,[],_,_,h,_,_,_=>h.elim|b::fs,t0::B,0,L+1,⟨h1,_,h3,a⟩,hi,hj,_=>by grind[List.getElem?_cons_zero,Option.some.injEq,List.getElem?_cons_succ,Fs.at,List.mem_of_getElem?]|b::fs,t0::B,Q+1,L+1,⟨_,_,_,a⟩,hi,hj,k=>by exact Fs.kh a hi hj aa|_::_,_::_,_,0,_,_,_,h=>by omega
theorem RO.abE(U:ak V H B)(i j:Nat){X:ah}{I:Nat}{ex:Bool}(W:∀H',ak V H' B->RO ac p P D (bo w E Z) H')(M:aT w h=.aD q o:=by exact cw)(J:lk w X=.slice g 0 I Q ex:=by exact cw)(hi:B[i]?=some (tB e q F):=by rfl)(hj:B[j]?=some (tS m size ws n full (.slice g 0 I Q ex)):=by rfl)(x:i≠j:=by decide)(N:F[o]?=some Z:=by rfl):RO ac p (⟨E,.aW h,none,[X],[]⟩::P) D w H:=by
 have y:q≠g:=by
  have⟨_,S,K⟩:=U;rcases Nat.lt_or_gt_of_ne x with a|a
  .have⟨f,Y,h1,h2,h3⟩:=K.kh hi hj a;rintro rfl;refine h3 q h1.1 ?_;rcases h2 with⟨_,_,_,W⟩|⟨O,R,aK,Q,z,rfl,h2,_⟩;·cases W
   injection h2 with h2;subst h2;exact acj ..
  have⟨f,Y,h1,h2,h3⟩:=K.kh hj hi a;rintro rfl;refine h3 q ?_ h2.1;rcases h1 with⟨_,_,_,W⟩|⟨O,R,aK,Q,z,rfl,h2,_⟩;·cases W
  injection h2 with h2;subst h2;exact acj ..
 have⟨T,C⟩:=U.get i hi;have u:=tB.cell C N;have G:ak V ((H.set g .none).set g (H.get g)) B:=U.bI rfl λk=>by
  rw[ai.aG];split;·rename_i e;rw[e]
  rename_i e;rw[ai.aG,an e]
 refine RO.BN (λ_ _ W=>by grind) (λ_ W=>by grind) (λaf b=>⟨H.set g .none,?_,?_⟩) (λ_ _=>rfl) (W _ G)
 .simp only[dF,b.get J rfl,gX,aH,b.gv M rfl];have:aY (H.set g .none) q o=some Z:=by simp only[aY,ai.aG,an y];exact u
  unfold aY at this;split at this;all_goals simp_all[gW,dE,fZ,aF,abH,bF]
 simp only[dF,b.get J rfl,gX,dj]
def fK(M:List ah):List Th:=M.map λm=>tX m (.deferred false)
theorem Lw:∀{M:List ah}{H:ai},ak V H (fK M++B)->∃H',iI H M=some H'/\ak V H' B|[],H,U=>⟨H,rfl,U⟩|m::M,H,U=>by have hg:H.get m=.deferred false:=U.nf 0 rfl;have⟨H',h1,h2⟩:=Lw (U.pK 0 rfl (.deferred true)).tail;simp[hg,h1,h2,iI]
theorem RJ.jf{K:KT}{f:List gO}{M:List ah}{a:cC}(hj:a=.none\/a=.ret)(U:ak V H (fK M++ts))(h:∀H',ak V H' ts->∃F,qL w H' f F/\K (gC F) H'):RJ ac ⟨mc f K,M,none⟩ a [] w H:=λaf b=>by have⟨H',h1,h2⟩:=Lw U;have⟨F,h3,g⟩:=h H' h2;have:=h3.uH b;rcases hj with rfl|rfl<;>simp only[iP,mc,h1,this]<;>exact g
theorem Ru.jf{K:KT}{a:List gO}{M:List ah}(U:ak V H (fK M++ts))(h:∀H',ak V H' ts->∃F,qL w H' a F/\K (gC F) H'):Ru ac ⟨mc a K,M,none⟩ (.code .ret::D) w H:=Ru.ret (RJ.rQ (RJ.jf (.inr rfl) U h))
end
end
section
variable{ac:Nat->aX}{A H:ai}{l:List bD}{e m o k i j bytes:Nat}{vs ws:List AV}{v sv:AV}
theorem LC{c:az AV}:∀{m o:Nat}{l:List AV},fZ c Q o m=some l->l.length=m/\o+m<=max Q o/\∀j(h:j<l.length),c.br .ai8 (o+j)=l[j]
 |0,o,l,h=>by simp only[fZ,aa9]at h;grind
 |m+1,o,l,h=>by
  simp only[fZ]at h;split at h
  .split at h;·rename_i a hl;injection h with h;subst h;have⟨h1,h2,h3⟩:=LC hl;grind
   grind
  grind
theorem FE(h:dE H g o Q=some F)(a:k+m<=Q):dE H g (o+k) m=some ((F.drop k).take m):=by
 unfold dE at h⊢;split at h;·rename_i b f _ _ _ _ hg;have⟨h1,h2,h3⟩:=LC h;by_cases h0:m=0;all_goals grind[fZ,uI,List.length_take,List.length_drop,Nat.add_assoc,Nat.min_eq_left]
 grind
theorem Sl.bI(h:Sl H Q vs L sv):eV sv sv=true:=by rcases h with⟨rfl,_⟩|⟨_,_,_,_,_,_,_,_,_,_,rfl,_⟩;all_goals simp[eV,cD,ah.ft]
theorem sj{ts:List Th}:(xs++ts++B).Perm (ts++(xs++B)):=by rw[<-ae0];exact ahA.append_right B
theorem cQ.bI{a:Type}{R:ai->a->List AV->Prop}{b:List a}(h:cQ Q R H b sv):eV sv sv=true:=by obtain⟨vs,h,_⟩:=h;exact h.bI
theorem RO.yj(U:ak A H B)(i:Nat){x:aJ}{re:List gN}(I:∀V,ak A V (B.set i (tB e g (sp vs o ws)))->(∀af,Le (bo w E .ai8) af->dQ af V re=true)/\RO ac p l D (bo w E .ai8) V)(b:aT w h=.aD g o:=by exact cw)(f:aT w x=.agg ws:=by exact cw)(hi:B[i]?=some (tB e g vs):=by rfl)(j:o+ws.length<=vs.length:=by first|decide|exact aht rfl|simp|omega)(t:ws.length=Q:=by first|rfl|simp)(u:cU ws=true:=by repeat first|rfl|assumption|(refine ao ?_ ?_)):RO ac p (⟨E,.store Q h x,none,[],re⟩::l) D w H:=by have⟨G,y,_,hu⟩:=U.iQ i hi;have⟨V,F,h1,h2,h3⟩:=tB.tp (ws:=ws) y j u;have⟨z,C⟩:=I V (hu h2 h3);refine RO.BN (λ_ _ I=>by grind) (λ_ I=>by grind) (λaf a=>⟨V,?_,rfl⟩) z C;simp only[dF,aH,a.gv b rfl,a.gv f rfl,AV.cells,t,bg,h1]
theorem RO.FF{args:List aJ}{Y:ah}{re:List gN}{ex:Bool}(b:∀i,(∀j,j≠g->i.get j=H.get j)->i.next=H.next->YF ac Z F i λt V=>t=v/\V=i)(X:∀u,(∀j,u.get j=H.get j)->u.next=H.next->(∀af,Le (bo w E v) af->dQ af u re=true)/\RO ac p l D (bo w E v) u)(M:lk w Y=.slice g size Q n ex:=by exact cw)(N:aT w h=Z:=by exact cw)(y:Z.bk=true:=by first|rfl|assumption)(O:args.map (aT w)=F:=by rfl)(z:F.all AV.bk=true:=by repeat first|rfl|assumption|(refine ad ?_ ?_)):RO ac p (⟨E,.call h args,none,[Y],re⟩::l) D w H:=λaf a=>by
 have C:args.map (gv af)=F:=by subst O;exact aip λx P=>a.gv rfl (aiv.1 z _ (ahG P))
 have⟨J,G⟩:=b (H.set g .none) (λj hj=>by rw[ai.aG,an hj]) rfl;have f:∀j,((H.set g .none).set g (H.get g)).get j=H.get j:=λj=>by
  rw[ai.aG];split;·rename_i e;rw[e]
  rename_i e;rw[ai.aG,an e]
 have⟨R,S⟩:=X _ f rfl;have⟨K,I⟩:=S _ (a.set E v);refine⟨max J K+1,?_⟩;simp only[Xo,Go.al.aA,d8,dF,a.get M rfl,gX,bg];rw[a.gv N y,C];refine(show Xf ac J Z F _ _ from G).mono (Nat.le_max_left ..) λt V T=>?_;obtain⟨rfl,rfl⟩:=T;have W:dQ (aQ af E t) (dj (H.set g .none) [(g,H.get g)]) re=true:=R _ (a.set E t);rw[aF W];exact(show Xo ac K l _ _ _ from I).mono (Nat.le_max_right ..) λ_ _ X=>X
theorem RO.FG(U:ak A H B){y:aJ}{re:List gN}(hs:(sv=.bj/\vs=[]/\Q=0)\/∃i o,sv=.slice i o Q Q true/\Sl H size vs Q sv)(b:Sl H size ws 1 Z)(T:∀V v,aR H V->ak A V (tS e size (vs++ws) (Q+1) true v::B)->(∀af,Le (bo w E v) af->dQ af V re=true)/\RO ac p l D (bo w E v) V)(h1:cU ws=true:=by repeat first|rfl|assumption|(refine ao ?_ ?_))(C:aT w h=sv:=by exact cw)(G:aT w y=Z:=by exact cw)(hb:(Q+1)*bytes<=70368744177664:=by omega)(I:Q+1<=70368744177664:=by omega):RO ac p (⟨E,.append e bytes size F false h y,none,[],re⟩::l) D w H:=by
 have f:(dU ((Q+1)*bytes)&&dU (Q+1))=true:=by rw[tn hb,tn I];rfl
 have hd:sv.bk=true:=by rcases hs with⟨rfl,_⟩|⟨_,_,rfl,_⟩<;>rfl
 have key:∃v V,jk e bytes size H sv 1 ws=some (v,V)/\aR H V/\ak A V (tS e size (vs++ws) (Q+1) true v::B):=by
  rcases hs with⟨rfl,rfl,rfl⟩|⟨i,o,rfl,hs⟩;·refine⟨.slice H.next 0 1 1 false,H.new (.cells (cr ws) (1*size) e true [] 0),?_,aR.new H _,U.push (aR.new H _) (cO.new (by simpa using b.length) false true) (rS H)⟩;rw[ahw]at f;simp only[jk,h1,ahN,abH,bF,show ahr 1 0=false from rfl,f,bg]
  have a:=hs.gh;have j:=hs.length;refine⟨.slice H.next 0 (Q+1) (Q+1) false,H.new (.cells (cr (vs++ws)) ((Q+1)*size) e true [] 0),?_,aR.new H _,U.push (aR.new H _) (cO.new (by rw[ae8,j,b.length,aiT]) false true) (rS H)⟩;have u:aih (Q+1) Q=false:=by cases x:aih (Q+1) Q with|false=>rfl|true=>have:=aht x;omega
  simp only[gh,dE]at a;cases hg:H.get i with
  |cells J K R P aK fz=>rw[hg]at a;simp only at a;cases t:fZ J K o (Q*size)with|none=>rw[t]at a;cases a|some S=>rw[t]at a;simp only[aa9,afm,true_and]at a;subst a;simp only[jk,h1,ahN,abH,bF,u,f,hg,t,bg]
  |_=>rw[hg]at a;cases a
 have⟨v,V,h2,h3,M⟩:=key;have⟨N,O⟩:=T V v h3 M;have z:=b.bk;refine RO.BN (λ_ _ T=>by grind) (λ_ T=>by grind) (λaf g=>⟨V,?_,rfl⟩) N O;simp only[dF,aH,g.gv C hd,g.gv G z,b.gh,abH,bF,h2]
def lR(v:AV)(b:Nat):AV:=match v with|.slice i o _ cap ex=>.slice i o b cap ex|v=>v
theorem Ae{b:Nat}(hs:Sl H Q vs L sv)(hb:b<=L):Sl H Q (vs.take (b*Q)) b (lR sv b):=by
 rcases hs with⟨rfl,rfl,rfl⟩|⟨i,o,cap,ex,g,m,h,a,aK,fz,rfl,hg,p,hl,t,hi,f⟩;·have:b=0:=aa;subst this;exact .inl ⟨rfl,rfl,aC⟩
 have bz:b*Q<=L*Q:=ahS _ hb;refine .inr ⟨i,o,cap,ex,g,m,h,a,aK,fz,rfl,hg,aa,?_,λj hj=>?_,hi,aa⟩;all_goals grind
theorem RO.lR{y:aJ}{b:Nat}(hs:Sl V Q vs size sv)(F:RO ac p l D (bo w E (Go.al.lR sv b)) H)(a:aT w h=sv:=by exact cw)(f:aT w y=.int k (.ofNat b):=by exact cw)(hb:b<=size:=by omega):RO ac p (⟨E,.gV e Q h none (some y) none,none,[],[]⟩::l) D w H:=by
 rcases hs with⟨rfl,rfl,rfl⟩|⟨i,o,cap,ex,u,m,x,t,aK,fz,rfl,hg,z,hl,C,hi,g⟩;·have:b=0:=aa;subst this;refine RO.zT (m:=0) (b:=0) (a:=0) a rfl ?_ rfl F;simp only[kj,f];rfl
 refine RO.gV (m:=cap) (b:=b) (a:=0) a rfl ?_ rfl aC ?_;·simp only[kj,f];exact qE aa
 have j:(if ex&&decide (cap=0)then o else o+0*Q)=o:=by split<;>omega
 rw[j,aiW,aiW,Option.isSome_none,Bool.or_false];exact F
theorem RO.FH{u:Type}{R:ai->u->List AV->Prop}{a:List u}(hg:aR V H){y:aJ}{j:Nat}(hs:cQ Q R V a sv)(G:∀g o cs(hj:j<a.length),R V a[j] cs->cs.length=Q->(∀t v,cs[t]?=some v->∀{W},aR V W->aY W g (o+t)=some v)->RO ac p l D (bo w E (.aD g o)) H)(x:aT w h=sv:=by exact cw)(z:aT w y=.int n (.ofNat j):=by exact cw)(hj:j<a.length:=by first|assumption|omega):RO ac p (⟨E,.dH Q h y,none,[],[]⟩::l) D w H:=by
 obtain⟨g,o,cap,ex,cs,rfl,h1,h2,h3,F⟩:=hs.at hj;have b:g.ap<V.next.ap:=by
  have⟨vs,C,_⟩:=hs;rcases C with⟨G,_⟩|⟨i,_,_,_,_,_,_,_,_,_,G,_,_,_,_,hi,_⟩;·cases G
  injection G with G;subst G;exact hi
 exact RO.dH (G g (o+j*Q) cs hj h1 h2 λt v e W f=>by rw[f.aY b];exact h3 t v e) x z hj
end
section
variable{ac:Nat->aX}{c:Cx}{L:Kn}{H:ai}{l:List bD}{e m:Nat}{v:AV}
def tU(e:Nat)(F:List AV)(Z:AV):Th where
 P H b:=∃Q off ex c m aK,b=Q::aK/\Z=.slice Q off F.length F.length ex/\H.get Q=.cells c m e true aK 0/\(ex=true\/m=off+F.length)/\off+F.length<=m/\(∀j(h:j<F.length),c.br .ai8 (off+j)=F[j])/\∀p∈b,p.ap<H.next.ap
 fr h t hg:=by
  obtain⟨Q,off,ex,c,m,aK,rfl,h1,h2,h3,f,g,a⟩:=h
  exact⟨Q,off,ex,c,m,aK,rfl,h1,by rw[hg Q (acj ..)];exact h2,h3,f,g,λp u=>ahC (a p u) t⟩
 lt h:=by
  obtain⟨Q,off,ex,c,m,aK,rfl,h1,h2,h3,f,g,a⟩:=h
  exact a
theorem tU.sl{a:List ah}(h:(tU e F Z).P H a):Sl H 1 F F.length Z:=by obtain⟨Q,off,ex,c,m,aK,rfl,h1,h2,h3,g,b,f⟩:=h;exact .inr ⟨Q,off,_,ex,c,m,e,true,aK,0,h1,h2,aa,(aiE _).symm,b,f Q (acj ..),aeE _⟩
theorem ak.LF(U:ak V H B)(i:Nat)(hi:B[i]?=some (tU e vs sv):=by rfl):Sl H 1 vs vs.length sv:=by have⟨b,a⟩:=U.get i hi;exact tU.sl a
theorem ak.toU(U:ak V H B)(i:Nat)(hi:B[i]?=some (tS e 1 F F.length true (.slice g 0 F.length F.length true))):ak V H (B.set i (tU e F (.slice g 0 F.length F.length true))):=by
 refine U.as i hi λx a=>?_;rcases a with⟨_,_,_,h⟩|⟨y,p,aK,cap,t,rfl,h2,hg,f,u,z,a,b⟩;·grind
 injection h2 with h2 _ _ h3 C;subst h2;exact⟨g,0,true,p,_,aK,rfl,rfl,hg,.inl rfl,aa,λj hj=>by grind,a⟩
theorem RO.abI(U:ak V H B)(i:Nat)(F:∀a,ak V H (B.set i (tU e vs a))->a.bk=true->a.cY=true->a.cells=[a]->RO ac c l D (bo L E a) H)(hi:B[i]?=some (tU e (v::vs) Z):=by rfl)(b:aT L h=Z:=by exact cw):RO ac c (⟨E,.gV e 1 h (some (.c (.int 3 (.ofNat 1)))) none none,none,[],[]⟩::l) D L H:=by
 have⟨C,f,_,hu⟩:=U.iQ i hi;obtain⟨j,off,ex,g,m,aK,rfl,h1,h2,h3,p,u,x⟩:=f;subst h1;have z:qf H j e=true:=by simp only[qf,h2,ait]
 refine RO.E0 (m:=vs.length+1) (b:=vs.length+1) (a:=1) b rfl rfl (by rfl) (by grind) (v:=.slice j (if ex&&decide (vs.length+1=1)then off else off+1*1) vs.length vs.length ex) aC (F _ (hu (t':=tU e vs _) (lM.refl _ H) ⟨j,_,ex,g,m,aK,rfl,rfl,h2,?_,?_,λt y=>?_,x⟩) rfl rfl rfl);·grind
 .simp only[ahK]at p;split<;>omega
 split;·grind
 have:=u (t+1) (by simpa using y);grind
theorem RO.abJ(U:ak W H B)(i:Nat){N:List (Nat×Nat×aJ)}{J:List AV}(w:AV)(aw:∀u V b,ak W V (B.set i (tU e (vs++[w]) b))->b.bk=true->b.cY=true->b.cells=[b]->RO ac c l D (bo ((g,u)::L) E b) V)(hi:B[i]?=some (tU e vs Z):=by rfl)(hl:nW L (dZ F 1) N=some [w]:=by exact cw)(h1:w.cY=true:=by first|rfl|assumption)(O:∀u,aT ((g,u)::L) h=Z:=by(intro u;conv=>lhs;whnf)<;>rfl)(hb:(vs.length+1)*Q<=70368744177664:=by omega)(hn:vs.length+1<=70368744177664:=by omega):RO ac c (⟨some g,.buildSlice e 1 F N,none,[],[]⟩::⟨E,.append e Q 1 J false h (.t g),none,[],[]⟩::l) D L H:=by
 have x:cU [w]=true:=by simp[cU,h1]
 refine RO.buildSlice ?_ hl x;have hg:aR H (H.new (.cells (cr [w]) [w].length e true [] 0)):=aR.new H _;have K:=U.bN hg;have hs:Sl (H.new (.cells (cr [w]) [w].length e true [] 0)) 1 [w] 1 (.slice H.next 0 1 1 true):=(cO.new (H:=H) (e:=e) (size:=1) (n:=1) (vs:=[w]) rfl true true).sl;generalize ag:H.new (.cells (cr [w]) [w].length e true [] 0)=p at*;have⟨fp,a,_,hu⟩:=K.iQ i hi;obtain⟨j,off,ex,I,m,aK,rfl,R,P,S,T,X,Y⟩:=a;subst R;have z:(!(dU ((vs.length+1)*Q)&&dU (vs.length+1)))=false:=by rw[tn hb,tn hn];rfl
 have C:aih (vs.length+1) vs.length=false:=by cases M:aih (vs.length+1) vs.length with|false=>rfl|true=>have:=aht M;omega
 have hrd:fZ I m off (vs.length*1)=some vs:=by have:=uI (c:=I) (n:=m) (l:=vs) (o:=off) T X;rw[aiE];exact this
 have f:∀j(hj:j<(vs++[w]).length),(cr (vs++[w])).br .ai8 (0+j)=(vs++[w])[j]:=λj hj=>by rw[ahw];exact xC hj
 cases G:ex with
 |true=>subst G;refine RO.append (r:=(.slice p.next 0 (vs.length+1) (vs.length+1) false,p.new (.cells (cr (vs++[w])) ((vs.length+1)*1) e true [] 0))) hs.gh (by simp only[jk,x,ahN,abH,bF,C,z,P,hrd,bg]) (aw _ _ _ (hu (fp':=[p.next]) (t':=tU e (vs++[w]) _) ⟨(aR.new p _).nx,λg a=>.inr (by rw[abt]at a;subst a;exact aeE _),λg _ a=>(aR.new p _).cI g a⟩ ⟨p.next,0,false,_,_,[],rfl,aC,by rw[ai.cL,aF rfl],.inr aC,aC,f,λg a=>by rw[abt]at a;subst a;rw[ai.lm];omega⟩) rfl rfl rfl) (O _) rfl (by show lk (bo L (some g) _) g=_;simp only[bo,lk,ah.ft.2 rfl]) rfl
 |false=>
  subst G;have hm:m=off+vs.length:=by rcases S with aw|aw;cases aw;exact aw
  have y:(true&&ahr vs.length vs.length&&ahr (off+vs.length*1) m&&ahr e e&&aih 0 m)=true:=by rw[hm,aiE];simp[ait]
  refine RO.append (r:=(.slice p.next 0 (vs.length+1) (vs.length+1) false,(p.set j (.cells I m e false aK 0)).new (.cells (cr (vs++[w])) ((vs.length+1)*1) e true (j::aK) (0 - off)))) hs.gh (by simp only[jk,x,ahN,abH,bF,C,z,P,hrd,y,bg]) (aw _ _ _ (hu (fp':=p.next::j::aK) (t':=tU e (vs++[w]) _) ⟨by rw[ai.lm,ai.eK];omega,λg a=>?_,λg a av=>?_⟩ ⟨p.next,0,false,_,_,j::aK,rfl,aC,by rw[ai.cL,ai.eK,aF rfl,Nat.zero_sub],.inr aC,aC,f,λg a=>?_⟩) rfl rfl rfl) (O _) rfl (by show lk (bo L (some g) _) g=_;simp only[bo,lk,ah.ft.2 rfl]) rfl
  .rcases ac2.1 a with rfl|a;·exact .inr (aeE _)
   exact .inl a
  .rw[ai.cL,ai.eK,an (bW aa),ai.aG,an λe:g=j=>a (by rw[e];exact acj ..)]
  rw[ai.lm,ai.eK];rcases ac2.1 a with rfl|a;·omega
  have:=Y g a;omega
end
section
variable{ac:Nat->aX}{L:Kn}{H:ai}{k:Nat}{w:AV}{full ex:Bool}
theorem RO.vr(U:ak W H B)(i:Nat)(b:vs.length=n){x:aJ}(z:∀V,ak W V (B.set i (tS Q 1 (vs.set k w) n full (.slice g 0 n size ex)))->RO ac p P D (bo L E .ai8) V)(f:aT L h=.aD g (0+k*1):=by exact cw)(j:aT L x=w:=by exact cw)(hi:B[i]?=some (tS Q 1 vs n full (.slice g 0 n size ex)):=by rfl)(ho:k<vs.length:=by first|omega|assumption)(t:w.cY=true:=by first|rfl|assumption)(u:w.cells=[w]:=by first|rfl|assumption)(hd:w.bk=true:=by first|rfl|assumption):RO ac p (⟨E,.store 1 h x,none,[],[]⟩::P) D L H:=by have y:vs.map id=vs:=List.map_id vs;refine RO.fD (f:=id) (zs:=vs) U i w b (λV a=>z V ?_) f j (by rw[y];exact hi) ho t u hd;rw[List.map_id]at a;exact a
end
section
variable{ac:Nat->aX}{L:Kn}{H:ai}{e n m o size:Nat}{v:AV}{full ex:Bool}
theorem abY(h:gX Z=some g):Z.bk=true:=by cases Z<;>first|rfl|cases h
def vu(L:Kn):List ah->List (Option ah)
 |[]=>[]
 |p::a=>gX (lk L p)::vu L a
theorem Ag{af:az AV}(b:Le L af):∀{ps is:List ah}{H:ai},vu L ps=is.map some->(dF af H ps).1.next=H.next/\(∀j,j∉is->(dF af H ps).1.get j=H.get j)/\∀a,(dj a (dF af H ps).2).next=a.next/\∀j,(dj a (dF af H ps).2).get j=if j∈is then H.get j else a.get j
 |[],[],H,_=>⟨rfl,λ_ _=>rfl,λa=>⟨rfl,λj=>by rfl⟩⟩
 |[],_::_,H,h=>by trivial
 |_::_,[],H,h=>by trivial
 |p::ps,Q::is,H,h=>by
  simp only[vu,ahk,ahD]at h;have g:af.get .ai8 p=lk L p:=b.get rfl (abY h.1);have⟨h1,h2,h3⟩:=Ag b (ps:=ps) (is:=is) (H:=H.set Q .none) h.2;simp only[dF,g,h.1];refine⟨h1,λj hj=>?_,λa=>⟨?_,λj=>?_⟩⟩;·simp_all[ab8,ai.aG,an,acj]
  .exact(h3 a).1
  simp only[dj,ai.aG];by_cases f:j=Q;all_goals simp[f,h3,an,ac2,false_or,ai.aG,bF]
theorem Fs.move{a H':ai}(g:H'.next=W.next)(b:a.next.ap=V.next.ap)(hg:∀j,V.next.ap<=j.ap->H'.get j=W.get j):∀{fs:List (List ah)}{B:List Th},Fs V W fs B->Fs a H' fs B|[],[],_=>trivial|[],_::_,h=>h.elim|_::_,[],h=>h.elim|f::fs,t::B,⟨h1,h2,h3,i⟩=>⟨t.fr h1 (by grind) λj hj=>hg j (h2 j hj),λj hj=>by rw[b];exact h2 j hj,h3,Fs.move g b hg i⟩
theorem ak.show{f:ai}{is:List ah}(a:V.next=H.next)(h0:∀j,j∉is->V.get j=H.get j)(h:∀j∈is,j.ap<H.next.ap)(b:f.next=W.next)(hu:∀j,f.get j=if j∈is then H.get j else W.get j)(U:ak V W B):ak H f B:=by
 have⟨hg,i,p⟩:=U;refine⟨⟨by rw[b,<-a];exact hg.nx,λj hj=>?_⟩,i,p.move b (by rw[a]) λj hj=>?_⟩
 .rw[hu];split;·rfl
  rename_i g;rw[hg.cI j (by rw[a];exact hj),h0 j g]
 rw[hu,an λg=>?_];have:=h j g;rw[a]at hj;omega
theorem RO.sn{args:List aJ}{I is:List ah}{re:List gN}{Q:AV->List Th->Prop}(U:ak V H B)(J:∀j∈is,j.ap<H.next.ap)(i:∀z,z.next=H.next->(∀j,j∉is->z.get j=H.get j)->YF ac Z F z λv b=>∃g,ak z b g/\Q v g)(ag:∀v g C,Q v g->aR H C->ak V C (g++B)->(∀af,Le (bo L E v) af->dQ af C re=true)/\RO ac p P D (bo L E v) C)(T:vu L I=is.map some:=by exact cw)(W:aT L h=Z:=by exact cw)(N:Z.bk=true:=by first|rfl|assumption)(X:args.map (aT L)=F:=by rfl)(O:F.all AV.bk=true:=by repeat first|rfl|assumption|(refine ad ?_ ?_)):RO ac p (⟨E,.call h args,none,I,re⟩::P) D L H:=λaf f=>by
 have S:args.map (gv af)=F:=by subst X;exact aip λx Y=>f.gv rfl (aiv.1 O _ (ahG Y))
 have⟨h1,h2,h3⟩:=Ag f (H:=H) T;generalize hh:dF af H I=a at h1 h2 h3;have key:YF ac Z F a.1 λv b=>dQ (aQ af E v) (dj b a.2) re=true/\∃n,Xo ac n P ⟨aQ af E v,p.M,p.R⟩ (dj b a.2) (iP ac p.K D .none):=by refine(i a.1 h1 h2).mono λv b G=>?_;have⟨g,hl,hq⟩:=G;have⟨h4,h5⟩:=h3 b;have u:=hl.show h1 h2 J h4 h5;have⟨h6,h7⟩:=ag v g _ hq u.gr (U.cH u);exact⟨h6 _ (f.set E v),h7 _ (f.set E v)⟩
 have⟨n,hn⟩:=key;have⟨m,t⟩:=(xx ac n).call (K:=λm v b=>dQ (aQ af E v) (dj b a.2) re=true/\Xo ac m P ⟨aQ af E v,p.M,p.R⟩ (dj b a.2) (iP ac p.K D .none)) (λm m' v H t ag=>⟨ag.1,ag.2.mono t λ_ _ ag=>ag⟩) ((mono ac n).call (aeE _) (λv b G=>G.2.imp λm t=>⟨G.1,t⟩) hn);refine⟨max n m+1,?_⟩;simp only[Xo,Go.al.aA,d8,bg,hh];rw[f.gv W N,S];refine(show Xf ac n Z F _ _ from t).mono (Nat.le_max_left ..) λv b y=>?_;rw[aF y.1];exact(show Xo ac m P _ _ _ from y.2).mono (Nat.le_max_right ..) λ_ _ ag=>ag
theorem RO.qP{t is:List ah}(C:aY H g o=some v)(y:g∉is)(M:∀u,(∀j,u.get j=H.get j)->u.next=H.next->RO ac p P D (bo L E v) u)(F:aT L h=.aD g o:=by exact cw)(G:vu L t=is.map some:=by exact cw):RO ac p (⟨E,.aW h,none,t,[]⟩::P) D L H:=λaf f=>by
 have⟨h1,h2,h3⟩:=Ag f (H:=H) G;generalize I:dF af H t=b at h1 h2 h3;have⟨J,K⟩:=h3 b.1;have i:∀j,(dj b.1 b.2).get j=H.get j:=λj=>by
  rw[K];split;·rfl
  rename_i x;exact h2 j x
 have⟨n,x⟩:=M _ i (J.trans h1) _ (f.set E v);refine⟨n+1,?_⟩;have a:aY b.1 g o=some v:=by simp only[aY,h2 g y];exact C
 have he:aH (.aW h) af b.1=some (v,b.1):=by
  simp only[aH,f.gv F rfl];unfold aY at a;split at a
  .rename_i cc n _ _ _ _ hg;split at a;·rename_i hb;injection a with a;have z:o<n:=aib.mp hb;simp only[gW,dE,hg,fZ,aF z,a,abH,bF];rfl
   cases a
  cases a
 simp[I,he,x,Xo,Go.al.aA,d8,bg,dQ]
theorem ak.pQ(U:ak V H B)(i:Nat)(hi:B[i]?=some (tB e g F):=by rfl):V.next.ap<=g.ap/\g.ap<H.next.ap:=by have⟨f,a,b,_⟩:=U.iQ i hi;exact⟨b g a.1,a.2.2.elim λ_ h=>h.2.2⟩
theorem ak.vA(U:ak V H B)(i:Nat)(hi:B[i]?=some (tS e size F n full (.slice g o m Q ex)):=by rfl):V.next.ap<=g.ap/\g.ap<H.next.ap:=by
 have⟨j,a,b,_⟩:=U.iQ i hi;have hb:=cO.below a;rcases a with⟨_,_,_,h⟩|⟨p,t,aK,Q,f,rfl,h2,_⟩;·grind
 injection h2 with h2;subst h2;exact⟨b _ (acj ..),hb _ (acj ..)⟩
end
section
variable[Ov]
def aeU(w:World):cq:=⟨λb=>w.heap.size<=b,λ_=>True,λ_=>False,λ_=>False⟩
section
variable{P:Program}
def kY(n c:Nat):Value->AV
 |.int k m=>.int (kc k) m
 |.bool b=>.bool b
 |.string t=>.str (t.data.toList.map aiJ)
 |.slice none 0 0=>.bj
 |.slice (some a) len cap=>if len<=cap then(if cap=0 then(if 0<c then .slice (ah.cV n) 0 0 0 true else .bQ)else match a with
   |⟨b,off,none⟩=>if b<c then .slice (ah.cV (n+b)) off len cap true else .bQ
   |_=>.bQ)else .bQ
 |_=>.bQ
def AG(P:Program)(n:Nat)(w:World):aP:=⟨λj=>if j.ap<=n then some (j.ap - 1,0)else if j.ap<=n+w.heap.size then some (j.ap - n - 1,0)else none,λb=>match w.heap[b]? with
 |some (.cells cs e _)=>(cs.size,(eW P e).getD 0)
 |_=>(0,0)⟩
theorem Hf{w:World}(h:Q<w.heap.size):AG P n w (ah.cV (n+Q))=some (Q,0):=by show(if(ah.cV (n+Q)).ap<=n then _ else _)=_;rw[ah.kQ,an aa,aF aa];congr 2;omega
theorem aeV{w:World}(v:Value):VR (AG P n w) (kY n w.heap.size v) v:=by
 unfold kY;split;·trivial
 .rfl
 .rfl
 .trivial
 .split
  .rename_i h1;split
   .rename_i h2;subst h2;split;·rename_i h3;simp only[VR];exact⟨aa,aeE _,aeE _,λ_=>trivial,0,0,by have:=Hf (P:=P) (n:=n) h3;omega,λh=>absurd rfl h,λh=>by simp⟩
    trivial
   split;·rename_i b off;split;all_goals simp_all[VR,trivial,aeE,Hf,ahw]
   trivial
  trivial
 trivial
def oW(n:Nat)(w:World)(b:Nat):bR:=match w.heap[b]? with
 |some (.cells cs e _)=>.cells (cr (cs.toList.map (kY n w.heap.size))) cs.size e false [] 0
 |_=>.none
def CR(n:Nat)(w:World):Nat->az bR
 |0=>.ch
 |k+1=>(CR n w k).set .none (ah.cV (n+k)) (oW n w k)
def kZ(n:Nat)(w:World):ai:=⟨CR n w w.heap.size,ah.cV (n+w.heap.size)⟩
theorem Oo(n:Nat)(w:World)(j:ah):∀k,az.get bR.none j (CR n w k)=if n<j.ap/\j.ap<=n+k then oW n w (j.ap - n - 1)else .none
 |0=>by rw[an aa];exact pu j j
 |k+1=>by
  rw[CR,az.aG,Oo n w j k];have e:j=ah.cV (n+k)↔j.ap=n+k+1:=⟨λe=>by rw[e,ah.kQ],λe=>ah.rC (by rw[ah.kQ];exact e)⟩;by_cases h:j.ap=n+k+1;·rw[aF (e.2 h),aF aa];congr 1;omega
  rw[an λa=>h (e.1 a)];by_cases h2:n<j.ap/\j.ap<=n+k;·rw[aF h2,aF aa]
  rw[an h2,an aa]
theorem Oq(n:Nat)(w:World)(j:ah):(kZ n w).get j=if n<j.ap/\j.ap<=n+w.heap.size then oW n w (j.ap - n - 1)else .none:=Oo n w j _
theorem Ot{w:World}(h:Q<w.heap.size):(kZ n w).get (ah.cV (n+Q))=oW n w Q:=by rw[Oq,ah.kQ,aF aa];congr 1;omega
theorem aeW{w:World}{cs:Array Value}{e:TypeId}{fr:Nat×Nat}(h:w.heap[n]?=some (.cells cs e fr)):OR P (AG P Q w) (oW Q w n) 0 (.cells cs e fr):=by simp only[oW,h,OR];simp_all[trivial,i,ahw,getElem?_pos,xC,ahP,Array.getElem_toList,aeV]
theorem ahg{w:World}(E:P.globals.size=n)(F:n<=w.heap.size):bm P (aeU w) (AG P n w) (kZ n w) w:=by
 have hg:=Oq n w;have key:∀i,(kZ n w).get i≠.none->∃b c e f,i.ap=n+b+1/\b<w.heap.size/\w.heap[b]?=some (.cells c e f)/\(kZ n w).get i=oW n w b/\AG P n w i=some (b,0):=by
  intro i hi;have r:=hg i;rw[r]at hi;split at hi
  .rename_i h;have hb:i.ap - n - 1<w.heap.size:=aa;have p:=hi;unfold oW at p;split at p;·rename_i cs e f z;refine⟨i.ap - n - 1,cs,e,f,aa,hb,z,by rw[r,aF h],?_⟩;rw[show i=ah.cV (n+(i.ap - n - 1))from ah.rC (by rw[ah.kQ];omega)];have:=Hf (P:=P) (n:=n) hb;rw[this,ah.kQ];congr 2;omega
   exact absurd rfl p
  exact absurd rfl hi
 have l:∀b c e f,w.heap[b]?=some (.cells c e f)->oW n w b=.cells (cr (c.toList.map (kY n w.heap.size))) c.size e false [] 0:=λb c e f h=>by simp only[oW,h]
 have s:∀i j,i∉((kZ n w).get j).aK:=λi j h=>by
  by_cases hj:(kZ n w).get j=.none;·rw[hj]at h;cases h
  have⟨b,c,e,f,_,_,h3,o,_⟩:=key j hj;rw[o,l b c e f h3]at h;cases h
 refine⟨λi hi=>?_,λi j b x y u hi hj a m=>?_,λi j h=>absurd h (s i j),λi b x hi v q=>?_,λi hi=>?_,λk A=>⟨A,trivial⟩,λg h=>?_,λi b x G hi a m=>?_,λi b x q=>?_,λi b x _ _=>trivial,λi h=>h.elim,λi h=>h.elim⟩;·have⟨b,c,e,f,_,_,h3,o,t⟩:=key i hi;exact⟨b,0,_,t,h3,by rw[o];exact aeW h3⟩
 .exfalso;have⟨b1,_,_,_,H,_,_,_,B⟩:=key i hi;have⟨b2,_,_,_,I,_,_,_,C⟩:=key j hj;rw[B]at a;rw[C]at m;injection a with a;injection a with a;injection m with m;injection m with m;exact u (ah.rC aa)
 .have⟨b1,c,e,f,_,_,h3,o,_⟩:=key i hi;rw[o,l b1 c e f h3]at v;cases v
 .have D:n+w.heap.size+1<=i.ap:=by have:(ah.cV (n+w.heap.size)).ap<=i.ap:=hi;rw[ah.kQ]at this;exact this
  refine⟨by rw[hg,an aa],?_⟩;show(if i.ap<=n then _ else _)=_;rw[an aa,an aa]
 .show(if(ah.cV g).ap<=n then _ else _)=_;rw[ah.kQ,aF aa];simp
 .have⟨b1,c,e,f,_,_,h3,o,t⟩:=key i hi;rw[t]at a;injection a with a;injection a with a;subst a;rw[h3]at m;injection m with m;subst m;rw[o,l b1 c e f h3];simp only[eQ];show(match w.heap[b1]? with|some (.cells cs e _)=>(cs.size,(eW P e).getD 0)|_=>(0,0))=_;rw[h3]
 have d:(if i.ap<=n then some (i.ap - 1,0)else if i.ap<=n+w.heap.size then some (i.ap - n - 1,0)else none)=some (b,x):=q;have:=ah.sE i;split at d;·injection d with d;injection d with d;omega
 split at d;·injection d with d;injection d with d;omega
 cases d
end
section
variable{P:Program}{K:Type}{eG:TypeId×Value->K}{w:World}
def mH(eG:TypeId×Value->K)(P:Program)(w:World)(t:TypeId)(cs:List Value):Prop:=∃fuel x,DataW.trod eG P w 0 (λ_=>true) true fuel t cs=some x
theorem Ou{a:Addr}{v:Value}(h:w.cell? a=some v):∃c e f,a.spot=none/\w.heap[a.block]?=some (.cells c e f)/\c[a.off]?=some v:=by unfold World.cell? at h;split at h;all_goals simp_all
theorem Ow:(⟨Q,n,none⟩:Addr).add L=⟨Q,n+L,none⟩:=by simp[Addr.add]
theorem Ox{c:Type}{Q:Nat->c->Prop}:∀{len:Nat},(∀i,i<len->∃a,Q i a)->∃b:List c,b.length=len/\∀i(h:i<b.length),Q i b[i]|0,_=>⟨[],rfl,λi h=>absurd h aC⟩|len+1,h=>by have⟨b,h1,h2⟩:=Ox (len:=len) λi hi=>h i aa;have⟨a,d⟩:=h len aC;refine⟨b++[a],by grind,λi hi=>?_⟩;grind
theorem AH{N:Type}{R:ai->N->List AV->Prop}{X:N->Prop}{t e:TypeId}(ht:P.underlying t=some (.slice e))(B:P.cellsOf e=Q)(V:0<Q)(hg:∃c e f,w.heap[0]?=some (.cells c e f))(W:∀A,mH eG P w e A->∃a:N,R (kZ n w) a (A.map (kY n w.heap.size))/\X a)(h:mH eG P w t A):∃v O,A=[v]/\cQ Q R (kZ n w) O (kY n w.heap.size v)/\∀a∈O,X a:=by
 have⟨a1,x,h⟩:=h;have⟨c0,e0,f0,Y⟩:=hg;have C:0<w.heap.size:=(Array.getElem?_eq_some_iff.1 Y).1;rcases DataW.trod_slice ht h with⟨rfl,_⟩|⟨a,len,cap,r,J,m,_,rfl,_,_,D,_,a2,K,s,_⟩;·exact⟨_,[],rfl,⟨[],.inl ⟨rfl,rfl,rfl⟩,λk l=>absurd l aC⟩,λa h=>by grind⟩
 have E:∀i,i<cap->∃A,w.cells? 0 (a.add (i*Q)) Q=some A/\(i<len->∃y,DataW.trod eG P w 0 (λ_=>true) true m e A=some y):=λi hi=>by
  by_cases hl:i<len;·have h1:=K i hl;rw[getElem?_pos r i aa,abF]at h1;have⟨A,h2,h3⟩:=h1;rw[B]at h2;exact⟨A,h2,λ_=>⟨_,h3⟩⟩
  have⟨h0,h1⟩:=s rfl;have h1:=h1 (i - len) aa;rw[getElem?_pos J _ aa,abF]at h1;have⟨A,h2,_⟩:=h1;rw[B,show len+(i - len)=i by omega]at h2;exact⟨A,h2,λh=>absurd h hl⟩
 by_cases F:cap=0
 .subst F;obtain rfl:len=0:=aa;refine⟨_,[],rfl,⟨[],?_,λk l=>absurd l aC⟩,λa h=>by grind⟩;simp only[kY,aeE,bg,C];refine .inr ⟨ah.cV n,0,0,true,cr (c0.toList.map (kY n w.heap.size)),c0.size,e0,false,[],0,rfl,?_,aC,aC,λj hj=>absurd hj aC,?_,aeE _⟩;·have:=Ot (n:=n) C;simp_all[aiV,oW]
  show(ah.cV n).ap<(ah.cV (n+w.heap.size)).ap;simp_all[ah.kQ]
 have⟨Z,h1,_⟩:=E 0 aa;have⟨_,a6,ag⟩:=World.cells?_some h1;have G:=ag 0 V;rw[getElem?_pos Z 0 aa]at G;have⟨c,e',f',q,d,g⟩:=Ou G;have av:(a.add (0*Q)).add 0=a:=by rw[Nat.zero_mul];unfold Addr.add;simp
 rw[av]at q d g;have⟨b,off,sp⟩:=a;simp only at q d g;subst q;have bz:b<w.heap.size:=(Array.getElem?_eq_some_iff.1 d).1;have cell:∀i,i<cap->∃A,A.length=Q/\(∀j(h:j<A.length),c[off+i*Q+j]?=some A[j])/\(i<len->∃y,DataW.trod eG P w 0 (λ_=>true) true m e A=some y):=λi hi=>by have⟨A,S,u⟩:=E i hi;have⟨_,z,T⟩:=World.cells?_some S;refine⟨A,z,λj hj=>?_,u⟩;have g5:=T j aa;rw[getElem?_pos A j hj,Ow,Ow]at g5;have⟨c',_,_,_,o,g7⟩:=Ou g5;simp only at o g7;rw[d]at o;injection o with o;injection o with o;subst o;exact g7
 have L:off+len*Q<=c.size:=by
  by_cases aw:len=0;·subst aw;have:=(Array.getElem?_eq_some_iff.1 g).1;omega
  have⟨A,S,u,_⟩:=cell (len - 1) aa;have:=(Array.getElem?_eq_some_iff.1 (u (Q - 1) aa)).1;have e:len*Q=(len - 1)*Q+Q:=by conv=>lhs;rw[show len=len - 1+1 by omega,Nat.succ_mul]
  omega
 have M:kY n w.heap.size (.slice (some ⟨b,off,none⟩) len cap)=.slice (ah.cV (n+b)) off len cap true:=by simp only[kY,D,F,bz,bg,bF]
 let p:List AV:=(ahq (len*Q)).map λj=>kY n w.heap.size (c.getD (off+j) default);have H:p.length=len*Q:=by simp[p]
 have ax:∀i,i<len->∃a:N,R (kZ n w) a ((p.drop (i*Q)).take Q)/\X a:=λi hi=>by
  have⟨A,S,u,z⟩:=cell i aa;have⟨y,z⟩:=z hi;have⟨a,r1,r2⟩:=W A ⟨m,y,z⟩;refine⟨a,?_,r2⟩;suffices e:(p.drop (i*Q)).take Q=A.map (kY n w.heap.size)by rw[e];exact r1
  have a8:i*Q+Q<=len*Q:=by rw[<-Nat.succ_mul];exact ahS _ hi
  apply ain;·rw[ahU,aiM,H,ahs,S];omega
  intro j h1 h2;rw[ahs]at h2;have T:=u j h2;simp only[List.getElem_take,List.getElem_drop,p,ahP,aiH];rw[<-aiD,ah2,T];rfl
 have⟨O,ay,hq⟩:=Ox ax;refine⟨_,O,rfl,⟨p,?_,λk l=>(hq k l).1⟩,λa ha=>?_⟩
 .rw[M,ay];refine .inr ⟨ah.cV (n+b),off,cap,true,cr (c.toList.map (kY n w.heap.size)),c.size,e',false,[],0,rfl,?_,L,H,λj hj=>?_,?_,D⟩;·rw[Ot bz];simp only[oW,d]
  .have I:off+j<c.size:=aa;rw[xC (by simpa using I)];simp only[ahP,Array.getElem_toList,p,aiH];rw[ah2,getElem?_pos c _ I];rfl
  show(ah.cV (n+b)).ap<(ah.cV (n+w.heap.size)).ap;rw[ah.kQ,ah.kQ];omega
 obtain⟨k,l,rfl⟩:=ahd ha;exact(hq k l).2
end
section
variable{P:Program}{K:Type}{eG:TypeId×Value->K}{w:World}
def yE(P:Program)(t:TypeId)(l:List (TypeId×Nat)):Prop:=∃fs,P.underlying t=some (.struct fs)/\fs.toList.map (λf=>(f.type,f.offset))=l
theorem AI{t:TypeId}{l:List (TypeId×Nat)}(e:yE P t l)(h:mH eG P w t A):A.length=P.cellsOf t/\∀p∈l,mH eG P w p.1 ((A.drop p.2).take (P.cellsOf p.1)):=by
 obtain⟨a,g,rfl⟩:=e;have⟨d,x,h⟩:=h;have⟨j,m,_,_,h1,h2,h3⟩:=DataW.trod_struct g h;refine⟨h1,λp k=>?_⟩;obtain⟨f,b,rfl⟩:=ahm.1 k;obtain⟨i,hi,rfl⟩:=ahd b;have c:i<a.size:=by simpa using hi
 have:=h3 i a[i] (getElem?_pos a i c);rw[getElem?_pos j i aa]at this;exact⟨m,_,this⟩
structure GTy(P:Program)where
 i:TypeId
 u:TypeId
 s:TypeId
 is:TypeId
 us:TypeId
 e:TypeId
 es:TypeId
 st:TypeId
 CS:TypeId
 j:TypeId
 b:TypeId
 bs:TypeId
 g:TypeId
 hi:P.underlying i=some (.int .i64)
 hu:P.underlying u=some (.int .u8)
 hs:P.underlying s=some .string
 gZ:P.underlying is=some (.slice i)
 hus:P.underlying us=some (.slice u)
 jP:P.underlying es=some (.slice e)
 aeZ:P.underlying CS=some (.slice st)
 bz:P.underlying bs=some (.slice b)
 he:yE P e [(i,0),(is,1)]
 dg:yE P st [(u,0),(i,1),(is,2),(i,3),(i,4),(s,5)]
 hj:yE P j [(u,0),(is,1),(s,2),(us,3),(es,4)]
 hb:yE P b [(is,0),(CS,1),(j,2)]
 hg:yE P g [(s,0),(i,1),(i,2),(bs,3)]
 ci:P.cellsOf i=1
 cu:P.cellsOf u=1
 cs:P.cellsOf s=1
 CT:P.cellsOf is=1
 cus:P.cellsOf us=1
 bB:P.cellsOf es=1
 ae1:P.cellsOf CS=1
 cbs:P.cellsOf bs=1
 ce:P.cellsOf e=2
 Oy:P.cellsOf st=6
 cj:P.cellsOf j=5
 cb:P.cellsOf b=7
 cg:P.cellsOf g=4
abbrev AW(n:Nat)(w:World)(cs:List Value):List AV:=cs.map (kY n w.heap.size)
theorem cQ.Oz{g:Type}{f:g->AV}{c:List g}(h:cQ 1 (λ_ a cs=>cs=[f a]) V c Z):Sl V 1 (c.map f) c.length Z:=by
 have⟨i,h1,h2⟩:=h;have hl:=h1.length;have e:i=c.map f:=by apply ain (by rw[hl,ahs];omega);intro k d b;rw[ahs]at b;have:=h2 k b;rw[aiE,ahp d]at this;simp only[aiu,aiB,ahD,and_true]at this;rw[ahP,this]
 grind
variable(Y:GTy P)
section
variable{Y}
theorem vX(h:mH eG P w Y.i A):∃m:Int,AW n w A=[aI m]:=by have⟨a,x,h⟩:=h;obtain⟨m,rfl,_⟩:=DataW.trod_int Y.hi h;exact⟨m,rfl⟩
theorem Hg(h:mH eG P w Y.u A):∃m:Nat,AW n w A=[aU m]/\m<256:=by have⟨b,x,h⟩:=h;obtain⟨m,rfl,_,a⟩:=DataW.trod_int Y.hu h;simp only[Lit.wf,ahl,decide_eq_true_eq]at a;obtain⟨m,rfl⟩:∃k:Nat,m=k:=⟨m.toNat,by have:(0:Int)<=m:=a.1;omega⟩;exact⟨m,rfl,by have:(m:Int)<=255:=a.2;omega⟩
theorem Hh(h:mH eG P w Y.s A):∃t:List Nat,AW n w A=[.str t]/\∀c∈t,c<256:=by have⟨a,x,h⟩:=h;obtain⟨t,rfl,_⟩:=DataW.trod_string Y.hs h;exact⟨_,rfl,λc d=>by obtain⟨b,_,rfl⟩:=ahm.1 d;exact b.toNat_lt⟩
variable(hg:∃c e f,w.heap[0]?=some (.cells c e f))
include hg
theorem CU(h:mH eG P w Y.is A):∃(v:AV)(l:List Int),AW n w A=[v]/\dh (kZ n w) l v:=by obtain⟨v,a,rfl,h1,_⟩:=AH (n:=n) (R:=λ_(m:Int)A=>A=[aI m]) (X:=λ_=>True) Y.gZ Y.ci aC hg (λA h=>by obtain⟨m,e⟩:=vX (Y:=Y) (n:=n) h;grind) h;exact⟨_,a,rfl,cQ.Oz h1⟩
theorem ae3(h:mH eG P w Y.us A):∃(v:AV)(l:List Nat),AW n w A=[v]/\E4 (kZ n w) l v/\∀c∈l,c<256:=by obtain⟨v,a,rfl,h1,h2⟩:=AH (n:=n) (R:=λ_(m:Nat)A=>A=[aU m]) (X:=λc=>c<256) Y.hus Y.cu aC hg (λA h=>by obtain⟨m,e,b⟩:=Hg (Y:=Y) (n:=n) h;grind) h;exact⟨_,a,rfl,cQ.Oz h1,h2⟩
theorem ae4(h:mH eG P w Y.e A):∃g:G.Edge,pE (kZ n w) g (AW n w A):=by have⟨hl,a⟩:=AI Y.he h;rw[Y.ce]at hl;match A,hl with|[c0,c1],_=>have b:=a (Y.i,0) aC;have c:=a (Y.is,1) aC;simp only[Y.ci,Y.CT]at b c;have⟨m,d⟩:=vX (Y:=Y) (n:=n) b;have⟨v,l,f,h1⟩:=CU (Y:=Y) (n:=n) hg c;simp only[aiX,aiu,aiB,ahk,aiz,List.drop_succ_cons,ahD,and_true]at d f;exact⟨⟨m,l⟩,v,by grind,h1⟩
theorem ae5(h:mH eG P w Y.st A):∃D:G.dY,nY (kZ n w) D (AW n w A)/\∀c∈D.i7,c<256:=by have⟨hl,a⟩:=AI Y.dg h;rw[Y.Oy]at hl;match A,hl with|[c0,c1,c2,c3,c4,c5],_=>have b:=a (Y.u,0) aC;have d:=a (Y.i,1) aC;have e:=a (Y.is,2) aC;have f:=a (Y.i,3) aC;have g:=a (Y.i,4) aC;have j:=a (Y.s,5) aC;simp only[Y.ci,Y.CT,Y.cu,Y.cs]at b d e f g j;have⟨k,m,_⟩:=Hg (Y:=Y) (n:=n) b;have⟨o,p⟩:=vX (Y:=Y) (n:=n) d;have⟨v,l,q,h2⟩:=CU (Y:=Y) (n:=n) hg e;have⟨r,x⟩:=vX (Y:=Y) (n:=n) f;have⟨y,z⟩:=vX (Y:=Y) (n:=n) g;have⟨t,B,C⟩:=Hh (Y:=Y) (n:=n) j;simp only[aiX,aiu,aiB,ahk,aiz,List.drop_succ_cons,ahD,and_true]at m p q x z B;exact⟨⟨k,o,l,r,y,t⟩,⟨v,by grind,h2⟩,C⟩
theorem ae6(h:mH eG P w Y.j A):∃j:G.fJ,nZ (kZ n w) j (AW n w A)/\(∀c∈j.i7,c<256)/\∀c∈j.bu,c<256:=by have⟨hl,a⟩:=AI Y.hj h;rw[Y.cj]at hl;match A,hl with|[c0,c1,c2,c3,c4],_=>have d:=a (Y.u,0) aC;have f:=a (Y.is,1) aC;have g:=a (Y.s,2) aC;have i:=a (Y.us,3) aC;have k:=a (Y.es,4) aC;simp only[Y.CT,Y.cu,Y.cs,Y.cus,Y.bB]at d f g i k;have⟨m,o,_⟩:=Hg (Y:=Y) (n:=n) d;have⟨p,q,r,h1⟩:=CU (Y:=Y) (n:=n) hg f;have⟨t,v,h2⟩:=Hh (Y:=Y) (n:=n) g;have⟨v3,x,y,h3,b⟩:=ae3 (Y:=Y) (n:=n) hg i;obtain⟨v4,z,l,B,_⟩:=AH (n:=n) (R:=pE) (X:=λ_=>True) Y.jP Y.ce aC hg (λA h=>by obtain⟨e,h⟩:=ae4 (Y:=Y) (n:=n) hg h;grind) k;simp only[aiX,aiu,aiB,ahk,aiz,List.drop_succ_cons,ahD,and_true]at o r v y l;subst l;exact⟨⟨m,q,t,x,z⟩,⟨p,v3,kY n w.heap.size c4,by grind,h1,h3,B⟩,h2,b⟩
structure Hi(b:G.dI):Prop where
 st:∀s∈b.aB,∀c∈s.i7,c<256
 fn:∀c∈b.aq.i7,c<256
 kd:∀c∈b.aq.bu,c<256
theorem ae7(h:mH eG P w Y.b A):∃r:G.dI,iR (kZ n w) r (AW n w A)/\Hi r:=by have⟨hl,a⟩:=AI Y.hb h;rw[Y.cb]at hl;match A,hl with|[c0,c1,c2,c3,c4,c5,c6],_=>have g:=a (Y.is,0) aC;have i:=a (Y.CS,1) aC;have k:=a (Y.j,2) aC;simp only[Y.CT,Y.ae1,Y.cj]at g i k;have⟨v0,m,o,h0⟩:=CU (Y:=Y) (n:=n) hg g;have⟨q,p,l,h1,d⟩:=AH (n:=n) (R:=nY) (X:=λs=>∀c∈s.i7,c<256) Y.aeZ Y.Oy aC hg (λA h=>ae5 (Y:=Y) (n:=n) hg h) i;have⟨j,h2,e,f⟩:=ae6 (Y:=Y) (n:=n) hg k;simp only[aiX,aiu,aiB,ahk,aiz,List.drop_succ_cons,ahD,and_true]at o l h2;subst l;exact⟨⟨m,p,j⟩,⟨v0,kY n w.heap.size c1,_,by simp_all,h0,h1,h2⟩,d,e,f⟩
structure GrB(g:G.aM):Prop where
 nm:∀c∈g.i7,c<256
 bl:∀b∈g.aj,Hi b
theorem ahh(h:mH eG P w Y.g A):∃r:G.aM,dc (kZ n w) r (AW n w A)/\GrB r:=by have⟨hl,a⟩:=AI Y.hg h;rw[Y.cg]at hl;match A,hl with|[c0,c1,c2,c3],_=>have c:=a (Y.s,0) aC;have d:=a (Y.i,1) aC;have e:=a (Y.i,2) aC;have f:=a (Y.bs,3) aC;simp only[Y.cs,Y.ci,Y.cbs]at c d e f;have⟨t,k,h0⟩:=Hh (Y:=Y) (n:=n) c;have⟨l,m⟩:=vX (Y:=Y) (n:=n) d;have⟨o,p⟩:=vX (Y:=Y) (n:=n) e;have⟨v3,q,j,h3,b⟩:=AH (n:=n) (R:=iR) (X:=Hi) Y.bz Y.cb aC hg (λA h=>ae7 (Y:=Y) (n:=n) hg h) f;simp only[aiX,aiu,aiB,ahk,aiz,List.drop_succ_cons,ahD,and_true]at k m p j;subst j;exact⟨⟨t,l,o,q⟩,⟨kY n w.heap.size c3,by grind,h3⟩,h0,b⟩
end
end
end
end Go.al
end
