/- A part. No conditions. -/
import Derived.Test.YtpplokbfajnjhaaGreatDoorA05
import Derived.Test.YtpplokbfajnjhaaGreatDoorA06
import Derived.Test.YtpplokbfajnjhaaGreatDoorA07
import Derived.Test.YtpplokbfajnjhaaGreatDoorA08
import Derived.Laws.RangeAny
set_option linter.all false
open Nat renaming beq->ah8,blt->aiu,ble->ai0
open List.Perm renaming swap->aiK
open UInt8 renaming ofNat->ajK
open Eq renaming mpr->ajP
noncomputable section
namespace Go.al.R
abbrev BJ:=287
abbrev cH:=46
abbrev kK:=162
abbrev cJ:=24
abbrev s9:=252
abbrev cB:=39
abbrev uI:=211
abbrev lu:=255
abbrev mi:=44
abbrev mj:=48
abbrev rH:=50
abbrev E4:=250
abbrev E5:=247
abbrev Ki:=251
abbrev WG:=241
abbrev WH:=190
abbrev WI:=191
abbrev gR:=78
abbrev WJ:=86
abbrev jQ:=64
abbrev Kj:=169
abbrev E6:=125
abbrev eL:=69
abbrev nY:=72
abbrev Kk:=193
abbrev ta:=192
abbrev jz:=156
abbrev uJ:=118
abbrev nZ:=114
abbrev BK:=227
abbrev lw:=229
abbrev E7:=149
abbrev Kl:=40
def p0:ah:=.xH
def p1:ah:=.xO p0
def p2:ah:=.xI p0
def p3:ah:=.xO p1
def p4:ah:=.xI p1
def p5:ah:=.xO p2
def p6:ah:=.xI p2
def p7:ah:=.xO p3
def p8:ah:=.xI p3
def p9:ah:=.xO p4
def eM:ah:=.xI p4
def eS:ah:=.xO p5
def ib:ah:=.xI p5
def jA:ah:=.xO p6
def ic:ah:=.xI p6
def ki:ah:=.xO p7
def kV:ah:=.xI p7
def ml:ah:=.xO p8
def mq:ah:=.xI p8
def rI:ah:=.xO p9
def rJ:ah:=.xI p9
def rL:ah:=.xO eM
def qq:ah:=.xI eM
def tb:ah:=.xO eS
def tc:ah:=.xI eS
def qv:ah:=.xO ib
def rM:ah:=.xI ib
def rN:ah:=.xO jA
def xi:ah:=.xI jA
def zx:ah:=.xO ic
def rO:ah:=.xI ic
def uA:ah:=.xO ki
def xj:ah:=.xI ki
def xk:ah:=.xO kV
def xl:ah:=.xI kV
def n6:ah:=.xO ml
def qy:ah:=.xI ml
def rP:ah:=.xO mq
def tf:ah:=.xI mq
def uK:ah:=.xO rI
def uL:ah:=.xI rI
def uM:ah:=.xO rJ
def uN:ah:=.xI rJ
def uO:ah:=.xO rL
def rQ:ah:=.xI rL
def xm:ah:=.xO qq
def rR:ah:=.xI qq
def n8:ah:=.xO tb
def na:ah:=.xI tb
def pp:ah:=.xO tc
def tg:ah:=.xI tc
def xn:ah:=.xO qv
def xp:ah:=.xI qv
def xu:ah:=.xO rM
def tk:ah:=.xI rM
def tm:ah:=.xO rN
def nf:ah:=.xI rN
def uP:ah:=.xO xi
def uQ:ah:=.xI xi
def xw:ah:=.xO zx
def xx:ah:=.xI zx
def xy:ah:=.xO rO
def uR:ah:=.xI rO
def uS:ah:=.xO uA
def xz:ah:=.xI uA
def zy:ah:=.xO xj
def zA:ah:=.xI xj
def BL:ah:=.xO xk
def BM:ah:=.xI xk
def BN:ah:=.xO xl
def BO:ah:=.xI xl
def BP:ah:=.xO n6
def BQ:ah:=.xI n6
def BR:ah:=.xO qy
def BS:ah:=.xI qy
def BT:ah:=.xO rP
def BU:ah:=.xI rP
def BV:ah:=.xO tf
def Km:ah:=.xI tf
def Ko:ah:=.xO uK
def Kq:ah:=.xI uK
def Kr:ah:=.xO uL
def E8:ah:=.xI uL
def Ks:ah:=.xO uM
def Kt:ah:=.xI uM
def Ku:ah:=.xO uN
def Kv:ah:=.xI uN
def Kw:ah:=.xO uO
def Kx:ah:=.xI uO
def Ky:ah:=.xO rQ
def Kz:ah:=.xI rQ
def KA:ah:=.xO xm
def KB:ah:=.xI xm
def KC:ah:=.xO rR
def KD:ah:=.xI rR
def KE:ah:=.xO n8
def KF:ah:=.xI n8
def KG:ah:=.xO na
def KH:ah:=.xI na
def p99:ah:=.xO pp
def af1:ah:=.xI pp
def af2:ah:=.xO tg
def af3:ah:=.xI tg
def af4:ah:=.xO xn
def af5:ah:=.xI xn
def af6:ah:=.xO xp
def af7:ah:=.xI xp
def af8:ah:=.xO xu
def af9:ah:=.xI xu
def aga:ah:=.xO tk
def agb:ah:=.xI tk
def agc:ah:=.xO tm
def agd:ah:=.xI tm
def age:ah:=.xO nf
def agf:ah:=.xI nf
def agh:ah:=.xO uP
def agi:ah:=.xI uP
def agj:ah:=.xO uQ
def agk:ah:=.xI uQ
def agl:ah:=.xO xw
def agm:ah:=.xI xw
def agn:ah:=.xO xx
def ago:ah:=.xI xx
def agp:ah:=.xO xy
def agq:ah:=.xI xy
def agr:ah:=.xO uR
def ags:ah:=.xI uR
def agt:ah:=.xO uS
def agu:ah:=.xI uS
def agv:ah:=.xO xz
def agw:ah:=.xI xz
def agx:ah:=.xO zy
def agy:ah:=.xI zy
def agz:ah:=.xO zA
def agA:ah:=.xI zA
def agB:ah:=.xO BL
def agC:ah:=.xI BL
def agD:ah:=.xO BM
def agE:ah:=.xI BM
def agF:ah:=.xO BN
def agG:ah:=.xI BN
def agH:ah:=.xO BO
def agI:ah:=.xI BO
def agJ:ah:=.xO BP
def agK:ah:=.xI BP
def agL:ah:=.xO BQ
def agM:ah:=.xI BQ
def agN:ah:=.xO BR
def agO:ah:=.xI BR
def agP:ah:=.xO BS
def agQ:ah:=.xI BS
def agR:ah:=.xO BT
def agS:ah:=.xI BT
def agT:ah:=.xO BU
def agU:ah:=.xI BU
def agV:ah:=.xO BV
def agW:ah:=.xI BV
def agX:ah:=.xO Km
def agY:ah:=.xI Km
def agZ:ah:=.xO Ko
def ag0:ah:=.xI Ko
def ag1:ah:=.xO Kq
def ag2:ah:=.xI Kq
def ag3:ah:=.xO Kr
def ag4:ah:=.xI Kr
def ag5:ah:=.xO E8
def ag6:ah:=.xI E8
def ag7:ah:=.xO Ks
def ag8:ah:=.xI Ks
def ag9:ah:=.xO Kt
def aha:ah:=.xI Kt
def ahb:ah:=.xO Ku
def ahc:ah:=.xI Ku
def ahd:ah:=.xO Kv
def ahe:ah:=.xI Kv
def ahf:ah:=.xO Kw
def ahg:ah:=.xI Kw
def ahh:ah:=.xO Kx
def ahi:ah:=.xI Kx
def ahj:ah:=.xO Ky
def ahk:ah:=.xI Ky
def ahl:ah:=.xO Kz
def ahm:ah:=.xI Kz
def ahn:ah:=.xO KA
def aho:ah:=.xI KA
def ahp:ah:=.xO KB
def ahq:ah:=.xI KB
def ahr:ah:=.xO KC
def ahs:ah:=.xI KC
def aht:ah:=.xO KD
def ahu:ah:=.xI KD
def ahv:ah:=.xO KE
def ahw:ah:=.xI KE
def ahx:ah:=.xO KF
def ahy:ah:=.xI KF
def ahz:ah:=.xO KG
def ahA:ah:=.xI KG
def ahB:ah:=.xO KH
def ahC:ah:=.xI KH
abbrev WK:=3
abbrev WL:=4
abbrev KI:=5
abbrev WM:=6
abbrev KJ:=7
abbrev KK:=8
abbrev E9:=9
abbrev WN:=10
abbrev WO:=11
abbrev WP:=12
abbrev WQ:=13
abbrev KL:=18
abbrev WR:=21
abbrev WS:=23
abbrev WT:=24
abbrev WU:=26
abbrev WV:=27
abbrev WW:=29
abbrev WX:=30
abbrev WY:=31
abbrev WZ:=32
abbrev W0:=33
abbrev W1:=34
abbrev E':=35
abbrev W2:=38
abbrev W3:=47
abbrev BW:=53
abbrev W4:=54
abbrev KM:=55
abbrev W5:=57
abbrev W6:=58
abbrev W7:=59
abbrev W8:=60
abbrev W9:=61
abbrev Xa:=62
abbrev Xb:=63
abbrev Xd:=64
abbrev Xe:=65
abbrev Xg:=66
abbrev Xh:=67
abbrev KN:=68
abbrev Xi:=69
abbrev Xj:=70
abbrev Xk:=72
abbrev Xl:=75
abbrev Xm:=78
abbrev Xn:=96
abbrev Xp:=98
abbrev Xq:=99
abbrev Xr:=100
abbrev Xs:=101
abbrev Xt:=102
abbrev Xu:=103
abbrev Xv:=104
abbrev Xw:=105
abbrev Xx:=106
abbrev Xy:=107
abbrev KO:=108
abbrev Xz:=109
abbrev XA:=110
abbrev XB:=111
abbrev BX:=112
abbrev XC:=113
abbrev XD:=114
abbrev XE:=116
abbrev XF:=117
abbrev XG:=127
abbrev XH:=128
abbrev XI:=129
abbrev KP:=130
abbrev XJ:=131
abbrev XK:=132
abbrev XL:=133
abbrev XM:=135
abbrev XN:=136
abbrev XO:=137
abbrev XP:=139
abbrev XQ:=159
abbrev XR:=160
abbrev XS:=161
abbrev XT:=162
abbrev KQ:=163
abbrev KR:=164
abbrev XU:=165
abbrev XV:=166
abbrev XW:=167
abbrev Fb:=168
abbrev XX:=170
abbrev XY:=171
abbrev KS:=180
abbrev XZ:=181
abbrev KU:=182
abbrev Fc:=183
abbrev X8:=184
abbrev Fe:=185
abbrev X9:=186
abbrev X':=187
abbrev Ff:=188
abbrev KW:=189
abbrev Ya:=190
abbrev Yb:=191
abbrev Yc:=192
abbrev Yd:=193
abbrev BY:=194
abbrev Ye:=195
abbrev BZ:=196
abbrev B0:=197
abbrev Yf:=198
abbrev Yg:=203
abbrev Yh:=204
abbrev Yi:=208
abbrev Fg:=209
abbrev KX:=210
abbrev Yj:=211
abbrev Yk:=212
abbrev Yl:=215
abbrev Ym:=216
abbrev Yn:=217
abbrev Yo:=218
abbrev Yp:=219
abbrev KY:=221
abbrev Yq:=222
abbrev KZ:=223
abbrev Yr:=224
abbrev Ys:=225
abbrev Yt:=227
abbrev K0:=228
abbrev K2:=229
abbrev Yu:=230
abbrev Yv:=231
abbrev Yw:=232
abbrev Fh:=233
abbrev Yx:=234
abbrev Yy:=236
abbrev K3:=243
abbrev K4:=28
namespace Y
abbrev m(d a:ah):=O d (.bg (T a))
abbrev l(d a:ah):=O d (.be (T a))
abbrev a(d:ah)(n:Nat)(a:ah):=O d (.iU n (T a))
abbrev x(d:ah)(n:Nat)(a b:ah):=O d (.dI n (T a) (T b))
abbrev s(n:Nat)(a b:ah):=N (.store n (T a) (T b))
abbrev k(d:ah)(n:Nat):=O d (.bg (I 3 n))
abbrev z(d a:ah):=O d (.jd (T a))
abbrev e(d a:ah)(n:Nat):=O d (.arith .eql 3 (T a) (I 3 n))
abbrev eu(d a:ah)(n:Nat):=O d (.arith .eql 2 (T a) (I 2 n))
abbrev f(d:ah):=O d (.bg (C (.bool false)))
abbrev tru(d:ah):=O d (.bg (C (.bool true)))
abbrev ld(d:ah)(n:Nat)(a:ah):=O d (.eF n (T a))
abbrev gm(d a g:ah)(b:Bool):=G d (.bg (T a)) g b
abbrev gl(d a g:ah)(b:Bool):=G d (.be (T a)) g b
abbrev ga(d:ah)(n:Nat)(a g:ah)(b:Bool):=G d (.iU n (T a)) g b
abbrev u(d a b:ah):=O d (.arith .lss 3 (T a) (T b))
abbrev pl(d a:ah)(n:Nat):=O d (.arith .add 3 (T a) (I 3 n))
abbrev b(d:ah)(n:Nat)(a:ah):=O d (.box n (T a))
abbrev o(d a b:ah):=O d (.pick (T a) (C (.bool true)) (T b))
abbrev y(d a b:ah):=O d (.pick (T a) (T b) (C (.bool false)))
abbrev no(d a:ah):=O d (.unary .not (T a))
abbrev c(d:ah)(n:Nat)(l:List aJ):=O d (.call (C (.func n [] [])) l)
abbrev ex(d a:ah)(n:Nat):=O d (.extract (T a) n)
abbrev nc(d a:ah):=O d (.nilCheck (T a))
abbrev nl(d:ah):=O d (.bg (C .bh))
abbrev cT:=C (.bool true)
abbrev cF:=C (.bool false)
abbrev cN:=C .bh
abbrev r:=bm.region
abbrev S:=bm.seq
abbrev H:=bm.cond
abbrev Bl:=bm.block
abbrev Lp:=bm.loop
abbrev X:=bm.exit
abbrev q(l:List bD)(x:bm):bm:=.seq (.region l) x
abbrev t1:=T p1
abbrev t9:=T p9
abbrev Yz:=T eM
abbrev YA:=T ib
abbrev YB:=T ki
abbrev YC:=T rJ
abbrev YD:=T tc
abbrev YE:=T rM
abbrev YG:=T rN
abbrev YH:=T uA
abbrev YI:=T xj
abbrev YJ:=T qy
abbrev YK:=T rP
abbrev YL:=T uK
abbrev YM:=T uL
abbrev YO:=T uM
abbrev YP:=T xm
abbrev t46:=T rR
abbrev YQ:=T xp
abbrev t53:=T xu
abbrev YR:=T tk
abbrev YS:=T uP
abbrev YT:=T uQ
abbrev YU:=T xw
abbrev i0:=I 3 0
abbrev v0:=Go.al.i 3 0
end Y
open Y
def K5:bm:=(q [b p1 24 p0,f p2] (S (q [ld p9 4 p1,c eM 4 [t9]] (H Yz (q [c eS 5 [],m p2 eS] .ret) .skip)) (q [ld ib 4 p1,c jA 6 [YA],O p3 (.alloc 24 [(.str []),v0,v0,.bh]),s 4 p3 jA] (q [ld ki 4 p3,c kV 7 [YB],m ic kV,ex ml ic 0,ex mq ic 1,m p4 ml,m p5 mq] (q [ld rJ 4 p3,c rL 8 [YC],m rI rL,ex qq rI 0,ex tb rI 1,m p6 qq,m p7 tb] (q [ld tc 4 p1,c qv 9 [YD],m p8 qv] (S (q [ld rM 4 p3,ld rN 4 p1,c xi 10 [YE,YG],no zx xi,m rO zx,gm uA p5 rO false,gm xj p8 rO false,G xk (.arith .neq 3 YH YI) rO false,o xl rO xk,m n6 xl,gm qy p7 n6 false,gm rP p8 n6 false,G tf (.arith .neq 3 YJ YK) n6 false,o uK n6 tf] (H YL (q [f p2] .ret) .skip)) (S (q [m uL p8,O uM (.arith .neq 3 YM i0)] (H YO (q [m uN p4,e uO uN 0,m rQ uO,gm xm p6 rQ true,G rR (.jd YP) rQ true,G n8 (.arith .eql 3 t46 i0) rQ true,y na rQ n8,m pp na,G tg (.call (C (.func 5 [] [])) []) pp true,y xn pp tg,m p2 xn] .ret) .skip)) (q [m xp p4,ld xu 4 p1,c tk 11 [t53],O tm (.arith .eql 3 YQ YR),m nf tm,gm uP p6 nf true,G uQ (.eF 4 t1) nf true,G xw (.call (C (.func 13 [] [])) [YT]) nf true,G xx (.call (C (.func 12 [] [])) [YS,YU]) nf true,y xy nf xx,m uR xy,G uS (.call (C (.func 5 [] [])) []) uR true,y xz uR uS,m p2 xz] .ret)))))))))
def YV:aV:=.code 65 [.tmp p2] K5
structure Tb(ab:Nat->aV):Prop where
 YW:ab 3=YV
 YX:ab 4=UC.1
 YY:ab 6=VL.1
 K6:ab 7=UN.1
 K7:ab 8=Vt.1
 YZ:ab 9=Wi.1
 Y0:ab 10=VZ.1
 Y1:ab 11=UZ.1
 Y2:ab 12=VI.1
 Y3:ab 13=Uz.1
 ahE:ab 14=VP.1
 ahF:ab 16=V9.1
 Y4:ab 18=Wm.1
 ahG:ab 19=Ud.1
 Y5:ab 21=Vg.1
 K8:ab 22=Wf.1
 Y6:ab 23=Ub.1
 Y7:ab 24=UF.1
 K9:ab 25=Uf.1
 Y8:ab 26=UY.1
 Y9:ab 27=Vy.1
 Y':ab 29=Wv.1
 Za:ab 30=Vj.1
 Zb:ab 31=WF.1
 Zc:ab 32=Vc.1
 Zd:ab 33=VX.1
 Ze:ab 34=Uk.1
 La:ab 35=Uu.1
 ahH:ab 36=T'.1
 ahI:ab 37=Vp.1
 Zf:ab 38=Wz.1
 ahJ:ab 43=UV.1
 ahK:ab 44=Us.1
 Fi:ab 47=V5.1
 ahL:ab 52=WA.1
 Zg:ab 53=Uy.1
 Zh:ab 54=Ui.1
 Zi:ab 55=VH.1
 Zj:ab 57=Wn.1
 Zk:ab 58=UP.1
 Zl:ab 59=UD.1
 Zm:ab 60=UE.1
 Zn:ab 61=WB.1
 Zo:ab 62=Wx.1
 Zp:ab 63=U8.1
 Zq:ab 64=U1.1
 Zr:ab 65=UW.1
 Zs:ab 66=VY.1
 Zt:ab 67=VJ.1
 Lb:ab 68=T9.1
 Zu:ab 69=UO.1
 Zv:ab 70=Vn.1
 ahM:ab 71=VD.1
 Zw:ab 72=Up.1
 Zx:ab 73=Vl.1
 Zy:ab 74=VG.1
 Zz:ab 75=Wu.1
 ahN:ab 76=V1.1
 Fj:ab 78=VC.1
 ahO:ab 95=Vu.1
 ZA:ab 96=Wa.1
 ZB:ab 98=U6.1
 ZC:ab 99=VF.1
 ZD:ab 100=Wj.1
 ZE:ab 101=Um.1
 ZF:ab 102=Ww.1
 ZG:ab 103=VM.1
 ZH:ab 104=UB.1
 ZI:ab 105=U5.1
 ZJ:ab 106=Uw.1
 ZK:ab 107=VN.1
 Lc:ab 108=VB.1
 ZL:ab 109=VE.1
 ZM:ab 110=Wg.1
 ZN:ab 111=Vf.1
 ZO:ab 112=Ve.1
 ZP:ab 113=V8.1
 ZQ:ab 114=Wd.1
 ZR:ab 115=V2.1
 ZS:ab 116=We.1
 ZT:ab 117=U0.1
 ahP:ab 118=VQ.1
 ahQ:ab 119=UL.1
 ahR:ab 120=T3.1
 ZU:ab 127=Vk.1
 ZV:ab 128=Uo.1
 ZW:ab 129=Vh.1
 ZX:ab 130=Ul.1
 Ld:ab 131=U2.1
 ZY:ab 132=US.1
 ZZ:ab 133=Wl.1
 Z0:ab 134=T1.1
 Z1:ab 135=Va.1
 Z2:ab 136=UT.1
 Z3:ab 137=Ue.1
 Z4:ab 139=Ur.1
 Z5:ab 159=V0.1
 Z6:ab 160=WC.1
 Z7:ab 161=Ut.1
 Z8:ab 162=VU.1
 Z9:ab 163=Ux.1
 Lf:ab 164=Vi.1
 Z':ab 165=V3.1
 aaa:ab 166=Vz.1
 aab:ab 167=UG.1
 aac:ab 168=Wk.1
 aad:ab 169=Ua.1
 aae:ab 170=Vm.1
 aaf:ab 171=Wp.1
 aag:ab 180=Uc.1
 aah:ab 181=Vv.1
 Lg:ab 182=Vr.1
 aai:ab 183=U4.1
 aaj:ab 184=V7.1
 aak:ab 185=Wy.1
 aal:ab 186=WE.1
 aam:ab 187=T7.1
 aan:ab 188=T0.1
 aao:ab 189=Un.1
 aap:ab 190=UA.1
 aaq:ab 191=U7.1
 aar:ab 192=U3.1
 aas:ab 193=Vw.1
 aat:ab 194=VV.1
 aau:ab 195=T8.1
 aav:ab 196=Ws.1
 aaw:ab 197=VO.1
 aax:ab 198=Vs.1
 aay:ab 199=T5.1
 aaz:ab 200=T2.1
 aaA:ab 203=Vx.1
 aaB:ab 204=UK.1
 Lh:ab 205=UI.1
 aaC:ab 206=Vq.1
 aaD:ab 207=T4.1
 aaE:ab 208=U'.1
 aaF:ab 209=V'.1
 aaG:ab 210=VK.1
 aaH:ab 211=VT.1
 aaI:ab 212=VS.1
 aaJ:ab 213=V6.1
 aaK:ab 214=Vo.1
 aaL:ab 215=Uj.1
 aaM:ab 216=U9.1
 aaN:ab 217=VA.1
 aaO:ab 218=UU.1
 aaP:ab 219=V4.1
 aaQ:ab 220=Uh.1
 Li:ab 221=Uq.1
 aaR:ab 222=Wb.1
 aaS:ab 223=UH.1
 aaT:ab 224=VW.1
 aaU:ab 225=Wq.1
 aaV:ab 226=Wh.1
 aaW:ab 227=Ug.1
 Lj:ab 228=Wt.1
 aaX:ab 229=Wc.1
 aaY:ab 230=UQ.1
 aaZ:ab 231=Uv.1
 aa0:ab 232=UM.1
 aa1:ab 233=Vb.1
 aa2:ab 234=WD.1
 aa3:ab 236=UR.1
 aa4:ab 237=T6.1
 aa5:ab 238=UJ.1
 aa6:ab 243=Wo.1
 aa7:ab 252=UX.1
 Fk:ab 28=.fF ut
 aa8:ab 126=.fF uu
 ahS:ab 1001=.dL sK
 aa9:ab 1002=.dL wR
 ahT:ab 1003=.dL Bn
 aba:ab 1004=.dL (Bp 168)
 abb:ab 1005=.dL (Bq 168)
end Go.al.R
namespace Go.al.R
section
variable{ab:Nat->aV}{b σ:Type}
def rS(agg:Bool)(cs:List AV):AV:=if agg then .agg cs else cs.headD .ajS
def zB(size:Nat)(agg:Bool)(x:aJ):bJ:=if agg then .eF size x else .be x
theorem RO.Lk{c:Cx}{l:List bD}{s:List SI}{L:Kn}{H:ai}{d:Option ah}{size o:Nat}{agg:Bool}{cs:List AV}{q:ah}{x:aJ}(hc:cs.length=size)(h1:agg=false->size=1)(hat:∀t v,cs[t]?=some v->aY H q (o+t)=some v)(hrd:dE H q o size=some cs)(h:RO ab c l s (bq L d (rS agg cs)) H)(hx:aT L x=.aD q o:=by exact cw):RO ab c (⟨d,zB size agg x,none,[],[]⟩::l) s L H:=by
 cases agg with
 |true=>exact RO.eF h (hx:=hx) (hc:=hrd)
 |false=>
  have:=h1 rfl;subst this;obtain⟨v,rfl⟩:∃v,cs=[v]:=by match cs,hc with|[v],_=>exact⟨v,rfl⟩
  exact RO.be h (hx:=hx) (hc:=hat 0 v rfl)
def n9(ab:Nat->aV)(A:ai)(fv:AV)(R:ai->b->List AV->Prop)(agg:Bool)(T:σ->List Th)(I:σ->Prop)(st:σ->b->Bool×σ)(la:List b):Prop:=
 ∀s a cs H us,a∈la->I s->R A a cs->ak A H (T s++us)->YF ab fv [rS agg cs] H λv H'=>v=.bool (st s a).1/\I (st s a).2/\∃c,ak A H' (T (st s a).2++c++us)
def lx(st:σ->b->Bool×σ):σ->List b->Nat->Option Nat×σ
 |s,[],_=>(none,s)
 |s,a::l,k=>if(st s a).1 then(some k,(st s a).2)else lx st (st s a).2 l (k+1)
def dO(st:σ->b->Bool×σ):σ->List b->Bool×σ
 |s,[]=>(true,s)
 |s,a::l=>if(st s a).1 then dO st (st s a).2 l else(false,(st s a).2)
theorem Ll(st:σ->b->Bool×σ):∀(l:List b)(s:σ)(k:Nat),((lx (λs a=>(!(st s a).1,(st s a).2)) s l k).1.isSome=!(dO st s l).1)/\(lx (λs a=>(!(st s a).1,(st s a).2)) s l k).2=(dO st s l).2
 |[],s,k=>by simp[lx,dO]
 |a::l,s,k=>by
  simp only[lx,dO];cases h:(st s a).1;·simp
  simpa using Ll st l (st s a).2 (k+1)
def Lm:Option Nat->AV
 |some k=>aN k
 |none=>.int 3 (.negSucc 0)
theorem abc(o:Option Nat):∃z,Lm o=aI z/\decide (0<=z)=o.isSome:=by cases o with|none=>exact⟨-1,rfl,rfl⟩|some k=>exact⟨.ofNat k,rfl,aC⟩
def Fl(ld:bJ)(size:Nat):bm:=(.seq (.region [O p4 (.bg (I 3 0))]) (.seq (.seq (.region [O p6 (.bg (T p0)),O p7 (.jd (T p6)),O p8 (.bg (I 3 0))]) (.block 0 (.loop (.seq (.region [O p9 (.arith .lss 3 (T p8) (T p7))]) (.seq (.cond (T p9) .skip (.exit 0)) (.seq (.block 1 (.seq (.region [O eM (.bg (T p8)),O p5 (.bg (T eM))]) (.seq (.region [O eS (.bg (T p1)),O ib (.bg (T p0)),O jA (.bg (T p5)),O ic (.dI size (T ib) (T jA)),O ki ld,O kV (.call (T eS) [(T ki)])]) (.cond (T kV) (.seq (.region [O ml (.bg (T p5)),O p4 (.bg (T ml))]) .ret) .skip)))) (.region [O mq (.arith .add 3 (T p8) (I 3 1)),O p8 (.bg (T mq))]))))))) (.seq (.region [O p4 (.bg (J 3 0))]) .ret)))
theorem abd{f p size:Nat}{agg:Bool}(u:ab f=.code p [.tmp p4] (Fl (zB size agg (al.T ic)) size))(B:2<=p)(h1:agg=false->size=1){A H:ai}{fv sv:AV}{R:ai->b->List AV->Prop}{T:σ->List Th}{I:σ->Prop}{st:σ->b->Bool×σ}{la:List b}{s:σ}{us:List Th}(C:fv.br=true)(o:n9 ab A fv R agg T I st la)(w:∀a cs,R A a cs->(rS agg cs).br=true)(hs:cQ size R A la sv)(hl:la.length<=1000000)(m:I s)(U:ak A H (T s++us)){K:KT}(q:∀H' d,I (lx st s la 0).2->ak A H' (T (lx st s la 0).2++d++us)->K (Lm (lx st s la 0).1) H'):YN ab f [sv,fv] H K:=by
 have⟨hd,_,_,E⟩:=hs.all;refine YF.code u (by simp;omega) ?_;refine au ?_;refine Ru.nm λS M x r=>Ru.bI r (up (P:=λk=>∀g h,lx st h (la.drop k) k=lx st s la 0->I h->(∃d,ak A g (T h++d++us))->Ru ab _ S ([(p8,aN k)]++pk M [p0,p1,p7]) g) la.length (λk F y g h c m U=>?_) 0 aa _ s rfl m ⟨[],by simpa using U⟩);subst x;subst r;refine Ru.loop (au ?_);refine Ru.cond (λe=>?_) (λe=>?_)
 .rw[ah6 e]at c;simp only[lx]at c;obtain⟨d,U⟩:=U;refine au ?_;refine RO.bO U.gr hs λG o1 cs hj t z hat hrd=>?_;have D:=w _ _ t;refine RO.Lk z h1 hat hrd (RO.cl ((o h la[k] cs g (d++us) (acm e) m t (by simpa using U)).mono ?_));rintro v H'⟨rfl,i,j,l⟩;refine au ?_;refine Ru.eC (λn=>?_) (λn=>?_);·rw[n]at c;simp only[bi]at c;refine au ?_;refine Ru.aL ?_;have:=q H' (j++d) (by rw[<-c];exact i) (by rw[<-c];simpa using l);rw[<-c]at this;exact this
  rw[n]at c;simp only[acg,bF]at c;refine au ?_;exact Ru.wk (y (k+1) aa aa H' _ c i ⟨j++d,by simpa using l⟩)
 rw[List.drop_of_length_le aa]at c;simp only[lx]at c;obtain⟨d,U⟩:=U;refine Ru.exitTo ?_;refine au ?_;refine Ru.aL ?_;have:=q g d (by rw[<-c];exact m) (by rw[<-c];exact U);rw[<-c]at this;exact this
def Ln(g:Nat):bm:=(.seq (.region [O p4 (.bg (C (.bool false)))]) (.seq (.region [O p5 (.bg (T p0)),O p6 (.bg (T p1)),O p7 (.call (C (.func g [] [])) [(T p5),(T p6)]),O p8 (.arith .geq 3 (T p7) (I 3 0)),O p4 (.bg (T p8))]) .ret))
def abe(e cl a:Nat):bm:=(.seq (.region [O p3 (.box e (T p1)),O p4 (.bg (C (.bool false)))]) (.seq (.region [O p5 (.bg (T p0)),O p6 (.lf cl [] [(T p3)]),O p7 (.call (C (.func a [] [])) [(T p5),(T p6)]),O p8 (.unary .not (T p7)),O p4 (.bg (T p8))]) .ret))
def abf:bm:=(.seq (.region [O p3 (.bg (C (.bool false)))]) (.seq (.region [O p4 (.be (T p1)),O p5 (.bg (T p0)),O p6 (.call (T p4) [(T p5)]),O p7 (.unary .not (T p6)),O p3 (.bg (T p7))]) .ret))
def abg(t n:Nat):bm:=(.seq (.region [O p2 (.box t (T p0)),O p3 (.bg (C (.bool false)))]) (.seq (.region [O p4 (.be (T p1)),O p5 (.eF n (T p2)),O p6 (.call (T p4) [(T p5)]),O p7 (.unary .not (T p6)),O p3 (.bg (T p7))]) .ret))
section
variable{A H:ai}{fv sv:AV}{R:ai->b->List AV->Prop}{T:σ->List Th}{I:σ->Prop}{st:σ->b->Bool×σ}{la:List b}{s:σ}{us:List Th}
theorem abh{f g k mt size:Nat}{agg:Bool}(l:ab f=.code mt [.tmp p4] (Ln g))(p:2<=mt)(hg:ab g=.code k [.tmp p4] (Fl (zB size agg (al.T ic)) size))(d:2<=k)(h1:agg=false->size=1)(e:fv.br=true)(h:n9 ab A fv R agg T I st la)(m:∀a cs,R A a cs->(rS agg cs).br=true)(hs:cQ size R A la sv)(hl:la.length<=1000000)(n:I s)(U:ak A H (T s++us)){K:KT}(o:∀H' c,I (lx st s la 0).2->ak A H' (T (lx st s la 0).2++c++us)->K (.bool (lx st s la 0).1.isSome) H'):YN ab f [sv,fv] H K:=by have⟨hd,_,_,q⟩:=hs.all;refine YF.code l (by simp;omega) ?_;refine au ?_;refine RO.cl (abd hg d h1 e h m hs hl n U λH' c i j=>?_);have⟨z,e1,e2⟩:=abc (lx st s la 0).1;rw[e1];refine RO.geq (b:=0) ?_;rw[e2];refine au ?_;exact Ru.aL (o H' c i j)
theorem zC{f g h p mt r size e cl:Nat}{agg:Bool}(t:ab f=.code r [.tmp p4] (abe e cl g))(y:2<=r)(hg:ab g=.code mt [.tmp p4] (Ln h))(l:2<=mt)(u:ab h=.code p [.tmp p4] (Fl (zB size agg (al.T ic)) size))(m:2<=p)(h1:agg=false->size=1)(z:fv.br=true)(n:fv.cW=true)(c:fv.cells=[fv])(o:∀q,n9 ab A (.func cl [] [.aD q 0]) R agg (λs=>tB e q [fv]::T s) I (λs a=>(!(st s a).1,(st s a).2)) la)(v:∀a cs,R A a cs->(rS agg cs).br=true)(hs:cQ size R A la sv)(hl:la.length<=1000000)(w:I s)(U:ak A H (T s++us)){K:KT}(x:∀H' k,I (dO st s la).2->ak A H' (T (dO st s la).2++k++us)->K (.bool (dO st s la).1) H'):YN ab f [sv,fv] H K:=by have⟨hd,_,_,B⟩:=hs.all;have⟨e1,e2⟩:=Ll st la s 0;refine YF.code t (by simp;omega) ?_;refine au ?_;refine RO.ct U (λH1 q d=>?_) (ho:=by rw[c];exact ao n rfl);rw[c]at d;refine au ?_;refine RO.cl (abh hg l u m h1 rfl (o q) v hs hl w d λH' k i j=>?_);rw[e1];refine au ?_;rw[e2]at i j;refine Ru.aL ?_;rw[Bool.not_not];exact x H' k i j.tail
theorem Fm{cl h e:Nat}(j:ab cl=.code h [.tmp p3] abf)(n:2<=h)(o:fv.br=true)(k:∀a cs,R A a cs->(rS false cs).br=true)(c:n9 ab A fv R false T I st la)(q:ah):n9 ab A (.func cl [] [.aD q 0]) R false (λs=>tB e q [fv]::T s) I (λs a=>(!(st s a).1,(st s a).2)) la:=by intro s a cs H us l m i U;have p:=k a cs i;refine YF.code j (by simp;omega) ?_;refine aX ?_;refine RO.cl ((c s a cs H (tB e q [fv]::us) l m i U.BH).mono ?_);rintro v H'⟨rfl,d,f,g⟩;refine aX ?_;exact Ru.aL ⟨rfl,d,f,by have:=g.sY;simpa using this⟩
theorem Lo{cl j e t n:Nat}(m:ab cl=.code j [.tmp p3] (abg t n))(r:2<=j)(u:fv.br=true)(o:∀a cs,R A a cs->cs.length=n/\cU cs=true)(f:n9 ab A fv R true T I st la)(q:ah):n9 ab A (.func cl [] [.aD q 0]) R true (λs=>tB e q [fv]::T s) I (λs a=>(!(st s a).1,(st s a).2)) la:=by intro s a cs H us hm p k U;have⟨c,l⟩:=o a cs k;refine YF.code m (by simp;omega) ?_;refine au ?_;refine RO.ct U (λH1 d U=>au ?_) (v:=.agg cs);refine RO.eD U 1 ?_;refine RO.co U 0 (m:=n) ?_ (hm:=by show 0+n<=cs.length;omega);rw[show((AV.agg cs).cells.drop 0).take n=cs by show(cs.drop 0).take n=cs;rw[ajG,<-c,ajg]];refine RO.cl ((f s a cs H1 (tB t d cs::tB e q [fv]::us) hm p k (ak.dR (xs:=[tB t d cs,tB e q [fv]]) U)).mono ?_);rintro v H'⟨rfl,g,h,i⟩;refine aX ?_;exact Ru.aL ⟨rfl,g,h,by have:=(ak.jP (xs:=[tB t d cs,tB e q [fv]]) i).tail;simpa using this⟩
end
end
end Go.al.R
namespace Go.al
section
def tX(q:ah)(o:bP):Th where
 P H a:=q∈a/\(∀j∈a,j=q)/\H.get q=o/\q.am<H.next.am
 fr h b hg:=⟨h.1,h.2.1,by rw[hg _ h.1];exact h.2.2.1,aim h.2.2.2 b⟩
 lt h:=by intro j hj;rw[h.2.1 j hj];exact h.2.2.2
variable{A H H':ai}{ts us:List Th}{q:ah}{o o':bP}
variable{ab:Nat->aV}{c:Cx}{s:List SI}{L:Kn}{d:Option ah}{l:List bD}
theorem ak.xA(U:ak A H ts)(o:bP):ak A (H.new o) (tX H.next o::ts):=U.push (fp:=[H.next]) (aS.new H o) ⟨abP.2 rfl,λj hj=>abP.1 hj,by rw[ai.cO,aG rfl],by rw[ai.lr];omega⟩ (rG H)
theorem ak.pq(U:ak A H ts)(i:Nat)(hi:ts[i]?=some (tX q o))(o':bP):ak A (H.set q o') (ts.set i (tX q o')):=by
 have⟨b,a,_,hu⟩:=U.iO i hi;refine hu (fp':=[q]) ⟨Nat.le_of_eq (by rw[ai.eH]),λj hj=>?_,λj hj c=>?_⟩ ⟨abP.2 rfl,λj hj=>abP.1 hj,by rw[ai.aF,aG rfl],by rw[ai.eH];exact a.2.2.2⟩;·rw[abP]at hj;subst hj;exact .inl a.1
 rw[ai.aF,an λe:j=q=>hj (by rw[e];exact a.1)]
theorem ak.ng(U:ak A H ts)(i:Nat)(hi:ts[i]?=some (tX q o)):H.get q=o:=by have⟨b,a⟩:=U.get i hi;exact a.2.2.1
theorem RO.pH(U:ak A H ts){x:aJ}{t:List Nat}(h:∀H' q,ak A H' (tX q (.ky t t 0)::ts)->RO ab c l s (bq L d (.aD q 0)) H')(b:aT L x=.str t:=by exact cw):RO ab c (⟨d,.pH x,none,[],[]⟩::l) s L H:=RO.op (λac a=>by simp only[aH,a.gv b rfl]) (h _ _ (U.xA _))
theorem RO.abi(U:ak A H ts)(i:Nat){x:aJ}{t:List Nat}{k:Nat}(h:RO ab c l s (bq L d (.tuple [.bool false])) H)(hi:ts[i]?=some (tX q (.ky t [] k)):=by rfl)(b:aT L x=.aD q 0:=by exact cw):RO ab c (⟨d,.si x,none,[],[]⟩::l) s L H:=RO.op (λac a=>by simp only[aH,a.gv b rfl,U.ng i hi]) h
theorem RO.abj(U:ak A H ts)(i:Nat){x:aJ}{t r:List Nat}{k b:Nat}(hb:b<128)(h:∀H',ak A H' (ts.set i (tX q (.ky t r (k+1))))->RO ab c l s (bq L d (.tuple [.bool true,.int 3 (.ofNat k),.int 2 (.ofNat b)])) H')(hi:ts[i]?=some (tX q (.ky t (b::r) k)):=by rfl)(e:aT L x=.aD q 0:=by exact cw):RO ab c (⟨d,.si x,none,[],[]⟩::l) s L H:=RO.op (λac a=>by simp only[aH,a.gv e rfl,U.ng i hi,show aiu b 128=true from ajP aiV hb,bi]) (h _ (U.pq i hi _))
theorem RO.abk(U:ak A H ts)(i:Nat){x:aJ}{t r:List Nat}{k b:Nat}(hb:¬b<128)(h:∀H',ak A H' (ts.set i (tX q (.ky t (t.drop (k+(u8 t k).2)) (k+(u8 t k).2))))->RO ab c l s (bq L d (.tuple [.bool true,.int 3 (.ofNat k),.int 2 (.ofNat (u8 t k).1)])) H')(hi:ts[i]?=some (tX q (.ky t (b::r) k)):=by rfl)(f:aT L x=.aD q 0:=by exact cw):RO ab c (⟨d,.si x,none,[],[]⟩::l) s L H:=RO.op (λac a=>by simp only[aH,a.gv f rfl,U.ng i hi,show aiu b 128=false from Bool.eq_false_iff.2 λe=>hb (Eq.mp aiV e),acg,bF]) (h _ (U.pq i hi _))
theorem abl{t:List Nat}{k:Nat}(hb:∀x∈t,x<256)(a:k<t.length)(h:128<=t[k]):128<=(u8 t k).1/\(u8 t k).1<=2147483647:=by
 unfold u8;have hs:k<(ByteArray.mk (t.map ajK).toArray).size:=by simpa[ByteArray.size]using a
 refine⟨(decode_high _ _ hs ?_).1,decode_le _ _⟩;have:((ByteArray.mk (t.map ajK).toArray)[k]'hs).toNat=t[k]:=by show(((t.map ajK).toArray)[k]'(by simpa using a)).toNat=t[k];have:=hb _ (acm a);simp;omega
 rw[this];exact h
theorem RO.abm(U:ak A H ts)(h:∀H' q,ak A H' (tX q (.map [] 0)::ts)->RO ab c l s (bq L d (.map q)) H'):RO ab c (⟨d,.kw,none,[],[]⟩::l) s L H:=RO.kw (h _ _ (U.xA _))
theorem RO.abn(U:ak A H ts)(i:Nat){e:dA}{m k w:aJ}{kv v:AV}{es:List aW}{ck:Nat}(h:∀H',ak A H' (ts.set i (tX q (.map (es++[⟨kv,v,ck⟩]) (ck+1))))->RO ab c l s (bq L d .ajS) H')(hi:ts[i]?=some (tX q (.map es ck)):=by rfl)(g:aT L m=.map q:=by exact cw)(j:aT L k=kv:=by exact cw)(n:aT L w=v:=by exact cw)(b:kv.br=true:=by first|rfl|assumption)(f:v.br=true:=by first|rfl|assumption)(o:iH e kv=true:=by rfl)(p:findKey e kv es 0=some none:=by rfl):RO ab c (⟨d,.jI e m k w,none,[],[]⟩::l) s L H:=RO.op (λac a=>by simp only[aH,a.gv g rfl,a.gv j b,a.gv n f,o,ait,acg,bF,U.ng i hi,p]) (h _ (U.pq i hi _))
theorem RO.Lq(U:ak A H ts)(i:Nat){e:dA}{z:AV}{m k:aJ}{kv:AV}{es:List aW}{ck:Nat}{r:Option (Nat×AV)}(f:findKey e kv es 0=some r)(h:RO ab c l s (bq L d (.tuple (match r with|some p=>[p.2,.bool true]|none=>[z,.bool false]))) H)(hi:ts[i]?=some (tX q (.map es ck)):=by rfl)(g:aT L m=.map q:=by exact cw)(j:aT L k=kv:=by exact cw)(b:kv.br=true:=by first|rfl|assumption)(n:iH e kv=true:=by rfl):RO ab c (⟨d,.lookup e z true m k,none,[],[]⟩::l) s L H:=RO.op (λac a=>by simp only[aH,a.gv g rfl,a.gv j b,n,ait,acg,bF,U.ng i hi,f,bi];cases r<;>rfl) h
theorem eo{ac:az AV}{p:ah}{x:aJ}{i:ah}{o:Nat}{v:AV}{re:List gX}(b:Le L ac)(d:aT L x=.aD i o)(f:lk L p=v)(hd:v.br=true)(hs:eV v v=true)(a:aY H i o=some v)(g:dX ac H re=true):dX ac H (⟨p,.be x,none⟩::re)=true:=by
 have e:gY H (.aD i o) 1 false=some v:=by
  unfold aY at a;split at a
  .rename_i cc n _ _ _ _ hg;split at a;·rename_i hb;injection a with a;have c:o<n:=aiV.mp hb;simp only[gY,dE,hg,fW,aG c,a,acg,bF];rfl
   cases a
  cases a
 simp only[dX,dZ,bi,aH,b.gv d rfl,e,aip,b.get f hd,hs,g,ajL]
theorem RO.B3{f:aJ}{args:List aJ}{fv:AV}{a:List AV}{p:ah}{x:aJ}{i:ah}{o:Nat}{v:AV}(h:YF ab fv a H λr H'=>aY H' i o=some v/\RO ab c l s (bq L d r) H')(k:∀r,aT (bq L d r) x=.aD i o:=by(intro r;conv=>lhs;whnf)<;>rfl)(m:∀r,lk (bq L d r) p=v:=by(intro r;conv=>lhs;whnf)<;>rfl)(b:v.br=true:=by first|rfl|assumption)(hvs:eV v v=true:=by first|rfl|assumption|simp[eV,cC,dV])(n:aT L f=fv:=by exact cw)(e:fv.br=true:=by first|rfl|assumption)(q:args.map (aT L)=a:=by rfl)(g:a.all AV.br=true:=by repeat first|rfl|assumption|(refine ad ?_ ?_)):RO ab c (⟨d,.call f args,none,[],[⟨p,.be x,none⟩]⟩::l) s L H:=RO.EW (h.mono λr H' h=>⟨λac j=>eo j (k r) (m r) b hvs h.1 rfl,h.2⟩) n e q g
def qz(L:Kn)(H:ai):List gE->List AV->Prop
 |[],[]=>True
 |.tmp p::a,v::b=>lk L p=v/\v.br=true/\qz L H a b
 |.cell p agg n::a,v::b=>(∃q o,lk L p=.aD q o/\gY H (.aD q o) n agg=some v)/\qz L H a b
 |_,_=>False
theorem qz.uF{ac:az AV}(a:Le L ac):∀{b:List gE}{c:List AV},qz L H b c->fc ac H b=some c|[],[],_=>rfl|.tmp p::b,v::c,h=>by simp only[fc,qz.uF a h.2.2,aip,a.get h.1 h.2.1]|.cell p agg n::b,v::c,h=>by have⟨⟨q,o,h1,h2⟩,h3⟩:=h;simp only[fc,qz.uF a h3,a.get h1 rfl,h2]|[],_::_,h=>h.elim|.tmp _::_,[],h=>h.elim|.cell .. ::_,[],h=>h.elim
theorem RJ.abo{j:bY}{b:List gE}{K:KT}{c:List AV}(hj:j=.none\/j=.ret)(d:qz L H b c)(h:K (fZ c) H):RJ ab (sU b K) j [] L H:=λac a=>by have:=d.uF (H:=H) a;rcases hj with rfl|rfl<;>simp only[iN,mZ,iw,this]<;>exact h
theorem Ru.i9{a:List gE}{K:KT}{vs:List AV}{s:List SI}(b:qz L H a vs)(h:K (fZ vs) H):Ru ab (sU a K) (.code .ret::s) L H:=Ru.ret (RJ.rE (RJ.abo (.inr rfl) b h))
theorem ak.agg(U:ak A H ts)(i:Nat){e n:Nat}{a:List AV}(hi:ts[i]?=some (tB e q a):=by rfl)(b:a.length=n:=by rfl):gY H (.aD q 0) n true=some (.agg a):=by subst b;have⟨d,c⟩:=U.get i hi;have:=tB.kU (o:=0) (m:=a.length) c aa;simp only[gY,this,bi,ajG,ajg]
theorem ak.one(U:ak A H ts)(i:Nat){e:Nat}{v:AV}(hi:ts[i]?=some (tB e q [v]):=by rfl):gY H (.aD q 0) 1 false=some v:=by have⟨b,a⟩:=U.get i hi;have:=tB.kU (o:=0) (m:=1) a aC;simp only[gY,this,acg,bF];rfl
end
section
variable{ab:Nat->aV}{c:Cx}{s:List SI}{L:Kn}{H A:ai}{d:Option ah}{l:List bD}{ts:List Th}{q:ah}{e n:Nat}
end
section
variable{ab:Nat->aV}
section
def Body(ab:Nat->aV)(A:ai)(y:AV)(m:Nat)(E:Nat->List AV->List Th->Prop)(J:Nat->List Th->Prop)(D:List Th->Prop):Prop:=
 ∀k args b c us H,k<m->E k args b->J k c->ak A H (b++c++us)->YF ab y args H λv H'=>∃a,ak A H' (a++us)/\(v=.bool true/\J (k+1) a\/v=.bool false/\D a)
def xG(ab:Nat->aV)(A:ai)(fv:AV)(m:Nat)(E:Nat->List AV->List Th->Prop)(c:List Th)(d Kp:ai->Prop):Prop:=
 ∀y J D b us H(K:KT),y.br=true->y.cW=true->y.cells=[y]->(∀k b us H,J k b->ak A H (b++us)->Kp H)->Body ab A y m E J D->J 0 b->ak A H (c++b++us)->d H->(∀H' a v,ak A H' (a++us)->(J m a\/D a)->K v H')->YF ab fv [y] H K
def xJ:List ah->List AV->Kn->Kn
 |p::a,v::b,L=>xJ a b ((p,v)::L)
 |_,_,L=>L
theorem Le.pr:∀{a:List ah}{b:List AV}{L:Kn}{ac:az AV},Le L ac->Le (xJ a b L) (l7 a b ac)|[],_,_,_,h=>by trivial|p::a,[],_,_,h=>by trivial|p::a,v::b,L,ac,h=>by simp only[xJ,l7];exact Le.pr (h.set (some p) v)
def uW(A:ai)(l:ah)(o2:bP)(us:List Th)(J:List Th->Prop)(Dn:bY->List Th->Prop)(j:bY)(_:Fr)(H':ai):Prop:=
 ∃a,ak A H' (a++tX l o2::us)/\match j with
  |.none=>J a
  |j=>Dn j a
def LF(ab:Nat->aV)(l:ah)(o1 o2:bP)(body:bm)(K:bY->Fr->ai->Prop)(j:bY)(fr:Fr)(H1:ai):Prop:=
 j=.none/\H1.get l=o1/\∃n,Xc ab n body fr (H1.set l o2) K
abbrev zM(A:ai)(l:ah)(o2:bP)(us:List Th)(J:List Th->Prop)(Dn:bY->List Th->Prop):Cx:=⟨uW A l o2 us J Dn,[],some l⟩
abbrev B9(ab:Nat->aV)(l:ah)(o1 o2:bP)(body:bm)(K:bY->Fr->ai->Prop):Cx:=⟨LF ab l o1 o2 body K,[],some l⟩
variable{A H:ai}{l:ah}{o1 o2:bP}{us xs:List Th}{J:List Th->Prop}{Dn:bY->List Th->Prop}{L:Kn}{body:bm}
theorem Ru.cY(U:ak A H (xs++tX l o1::us))(h:∀b,ak A b (xs++tX l o2::us)->Ru ab (zM A l o2 us J Dn) [.code body] L b):Ru ab (B9 ab l o1 o2 body (uW A l o2 us J Dn)) [] L H:=λac a=>by have hi:(xs++tX l o1::us)[xs.length]?=some (tX l o1):=aC;have h2:=U.pq xs.length hi o2;have e:(xs++tX l o1::us).set xs.length (tX l o2)=xs++tX l o2::us:=aC;rw[e]at h2;have⟨n,c⟩:=h _ h2 ac a;exact⟨rfl,U.ng xs.length hi,n,c.mono (afM _) λ_ _ _ h=>h⟩
theorem Ru.bz{ts:List Th}(U:ak A H (ts++tX l o2::us))(a:J ts):Ru ab (zM A l o2 us J Dn) [] L H:=λ_ _=>⟨ts,U,a⟩
theorem RJ.bz{ts:List Th}{j:bY}(U:ak A H (ts++tX l o2::us))(hj:j≠.none)(a:Dn j ts):RJ ab (zM A l o2 us J Dn) j [] L H:=λ_ _=>⟨ts,U,by grind⟩
theorem Ru.zN{ts:List Th}{s:List SI}(U:ak A H (ts++tX l o2::us))(a:Dn .ret ts):Ru ab (zM A l o2 us J Dn) (.code .ret::s) L H:=Ru.ret (RJ.rE (RJ.bz U aC a))
theorem LG{a b:Th}{d c us:List Th}:(a::b::(d++c++us)).Perm (d++(a::c)++(b::us)):=by have h1:(d++(a::c)++(b::us)).Perm (b::(d++(a::c)++us)):=aii;have h2:(d++(a::c)++us).Perm (a::(d++c++us)):=(aii (l₁:=d)).append_right us;exact((h1.trans (h2.cons b)).trans (aiK a b _)).symm
theorem Fz{a:Th}{ws b us:List Th}:(ws++(a::b)++us).Perm (ws++b++a::us):=by have h1:(ws++b++a::us).Perm (a::(ws++b++us)):=aii;have h2:(ws++(a::b)++us).Perm (a::(ws++b++us)):=(aii (l₁:=ws)).append_right us;exact h2.trans h1.symm
theorem LH{ac:az AV}{b:List ah}{cY body:bm}{c:ah}{args:List AV}{Q:KT}(d:H.get l=.loop .ready .none 0 ac b cY body c)(e:args.length=b.length)(f:iN ab (LF ab l (.loop .ready .none 0 ac b cY body c) (.loop .busy .none 0 ac b cY body c) body (uW A l (.loop .busy .none 0 ac b cY body c) us J Dn)) [.code cY] .none ⟨l7 b args ac,[],some l⟩ H)(q:∀H' a,ak A H' (a++tX l (.loop .busy .none 0 ac b cY body c)::us)->J a->Q (.bool true) (H'.set l (.loop .ready .none 0 ac b cY body c)))(hd:∀j H' a,j≠.none->ak A H' (a++tX l (.loop .busy .none 0 ac b cY body c)::us)->Dn j a->Q (.bool false) (H'.set l (.loop .done j 0 ac b cY body c))):YF ab (.yield l) args H Q:=by have⟨g,i⟩:=f;obtain⟨m,o⟩:=(w7 ab g).exec (K:=λm j fr H1=>j=.none/\H1.get l=.loop .ready .none 0 ac b cY body c/\Xc ab m body fr (H1.set l (.loop .busy .none 0 ac b cY body c)) (uW A l (.loop .busy .none 0 ac b cY body c) us J Dn)) (λm r j fr H n h=>⟨h.1,h.2.1,h.2.2.mono n λ_ _ _ h=>h⟩) ((mono ab g).exec (afM _) (λj fr H h=>by have⟨h1,h2,k,h3⟩:=h;grind) i);refine⟨max g m+1,?_⟩;simp only[Xf,fu,d,aG e];refine(show Xc ab g cY _ H _ from o).mono (Nat.le_max_left ..) λj fr H1 h=>?_;obtain⟨rfl,h2,h3⟩:=h;simp only[h2];refine h3.mono (Nat.le_max_right ..) λj _ H' h=>?_;have⟨a,p,s⟩:=h;have t:H'.get l=.loop .busy .none 0 ac b cY body c:=p.ng a.length aC;grind
theorem Ru.oh{K:bY->Fr->ai->Prop}{M:List ah}{s:List SI}{f:aJ}{b:List ah}{cY body:bm}{fv:AV}{m:Nat}{E:Nat->List AV->List Th->Prop}{R p:List Th}{S Kp:ai->Prop}{J:Nat->List Th->Prop}{Dn:bY->List Th->Prop}(U:ak A H (R++p++us))(V:xG ab A fv m E R S Kp)(W:∀F,aS H F->S F)(X:J 0 p)(Y:∀k args o,E k args o->args.length=b.length)(G:∀k c us H,J k c->ak A H (c++us)->Kp H)(Z:∀k args o c us l o1 o2 H,k<m->E k args o->J k c->ak A H (o++c++tX l o1::us)->Ru ab (B9 ab l o1 o2 body (uW A l o2 us (J (k+1)) Dn)) [.code cY] (xJ b args L) H)(z:∀H' a u,J m a->ak A H' (a++tX u (.deferred false)::us)->Ru ab ⟨K,u::M,none⟩ s L H')(B:∀j H' a u,j≠.none->Dn j a->ak A H' (a++tX u (.deferred false)::us)->RJ ab ⟨K,u::M,none⟩ j s L H')(hf:aT L f=fv:=by exact cw)(I:fv.br=true:=by first|rfl|assumption):Ru ab ⟨K,M,none⟩ (.code (.rangeFunc f b cY body)::s) L H:=by
 intro ac i;have N:=U.xA (.deferred false);have q:=N.xA (.loop .ready .none 0 ac b cY body H.next);have r:=q.bV LG;have w:aS H ((H.new (.deferred false)).new (.loop .ready .none 0 ac b cY body H.next)):=(aS.new H _).trans (aS.new _ _);generalize hl:(H.new (.deferred false)).next=l at q r;generalize O:((H.new (.deferred false)).new (.loop .ready .none 0 ac b cY body H.next))=F at q r w;have key:=V (.yield l) (λk a=>∃c,a=tX l (.loop .ready .none 0 ac b cY body H.next)::c/\J k c) (λa=>∃c j,j≠.none/\a=tX l (.loop .done j 0 ac b cY body H.next)::c/\Dn j c) _ _ F (λ_ H'=>match H'.get l with
  |.loop st bS fn C b aw bd d=>match st with|.busy=>False|_=>iN ab K s bS ⟨ac,H.next::M,none⟩ (H'.set l (.loop .exhausted bS fn C b aw bd d))
  |_=>False) rfl rfl rfl (by rintro k _ g H'⟨c,rfl,t⟩P;exact G k c _ H' t P.BH) ?_ ⟨p,rfl,X⟩ r (W _ w) ?_;·have⟨n,hn⟩:=key;refine⟨n+1,?_⟩;simp only[Xc,exec];rw[hl,O,i.gv hf I];exact hn
 .rintro k args o _ g T hk x⟨c,rfl,t⟩h;have y:=h.bV Fz;have e:T.get l=.loop .ready .none 0 ac b cY body H.next:=y.ng (o++c).length aC;have D:=Z k args o c g l _ (.loop .busy .none 0 ac b cY body H.next) T hk x t y (l7 b args ac) i.pr;refine LH e (Y _ _ _ x) D (λH' a h1 h2=>⟨tX l _::a,?_,.inl ⟨rfl,a,rfl,h2⟩⟩) (λj H' a hj h1 h2=>⟨tX l _::a,?_,.inr ⟨rfl,a,j,hj,rfl,h2⟩⟩);·have:=h1.pq (q:=l) (o:=.loop .busy .none 0 ac b cY body H.next) a.length aC (.loop .ready .none 0 ac b cY body H.next);rw[show(a++tX l (.loop .busy .none 0 ac b cY body H.next)::g).set a.length (tX l (.loop .ready .none 0 ac b cY body H.next))=a++tX l (.loop .ready .none 0 ac b cY body H.next)::g by simp]at this;exact this.sY
  have:=h1.pq (q:=l) (o:=.loop .busy .none 0 ac b cY body H.next) a.length aC (.loop .done j 0 ac b cY body H.next);rw[show(a++tX l (.loop .busy .none 0 ac b cY body H.next)::g).set a.length (tX l (.loop .done j 0 ac b cY body H.next))=a++tX l (.loop .done j 0 ac b cY body H.next)::g by simp]at this;exact this.sY
 rintro H' _ v h(⟨c,rfl,Q⟩|⟨c,j,hj,rfl,hD⟩);·have e:=h.ng 0 rfl;simp only[e];exact z _ c _ Q (h.pq 0 rfl _).tail ac i
 have e:=h.ng 0 rfl;simp only[e];exact B j _ c _ hj hD (h.pq 0 rfl _).tail ac i
end
section
def tR(size:Nat)(vs:List AV)(n:Nat)(v:AV):Th where
 P H b:=Sl H size vs n v/\(∀i o m c e,v=.slice i o m c e->i∈b)/\∀j∈b,j.am<H.next.am
 fr:=by
  rintro H H' b⟨h1,h2,h3⟩f hg
  refine⟨?_,h2,λj hj=>aim (h3 j hj) f⟩
  rcases h1 with h|⟨i,o,cap,ex,c,m,e,d,aK,fz,g,k,a⟩
  .exact .inl h
  .exact .inr ⟨i,o,cap,ex,c,m,e,d,aK,fz,g,by rw[hg i (h2 _ _ _ _ _ g)];exact k,a.1,a.2.1,a.2.2.1,aim a.2.2.2.1 f,a.2.2.2.2⟩
 lt h:=h.2.2
def tZ(F:List Th):Th where
 P H a:=(∀t∈F,∃f,(∀j∈f,j∈a)/\t.P H f)/\∀j∈a,j.am<H.next.am
 fr:=by
  rintro H H' a⟨h1,h2⟩b hg
  refine⟨λt d=>?_,λj hj=>aim (h2 j hj) b⟩
  have⟨f,c,e⟩:=h1 t d
  exact⟨f,c,t.fr e b λj hj=>hg j (c j hj)⟩
 lt h:=h.2
variable{A H H':ai}{ts us:List Th}{F:List Th}{t t':Th}{i j e size n o m:Nat}{vs ws:List AV}{v w:AV}{full:Bool}{q r:ah}
theorem ak.lU(U:ak A H ts):ak A H (tZ []::ts):=by have h0:(tZ []).P H []:=⟨λt h=>absurd h aC,λj h=>absurd h aC⟩;exact U.push (aS.refl H) h0 λj h=>absurd h aC
theorem ak.iC(U:ak A H (t::tZ F::ts)):ak A H (tZ (t::F)::ts):=by
 have⟨b,fs,c⟩:=U;match fs,c with
  |d::e::fs,⟨h1,h2,h3,a,g,k,i⟩=>
   refine⟨b,(d++e)::fs,⟨λu hu=>?_,λj hj=>?_⟩,λj hj=>?_,λj hj f l=>?_,i⟩
   .rcases acT.1 hu with rfl|hu;·grind
    have⟨f,m,n⟩:=a.1 u hu;grind
   .rcases adX.1 hj with h|h;·exact t.lt h1 j h
    exact a.2 j h
   .rcases adX.1 hj with h|h;·exact h2 j h
    exact g j h
   grind
theorem ak.kj(U:ak A H ts)(i:Nat)(hi:ts[i]?=some (tZ F))(a:t∈F):∃f,t.P H f:=by have⟨c,b⟩:=U.get i hi;have⟨f,_,h⟩:=b.1 t a;grind
theorem ak.LI(U:ak A H (tZ F::ts))(b:t∈F)(h:∀f,t.P H f->t'.P H f):ak A H (tZ (t'::F)::ts):=by
 refine U.as 0 rfl λc a=>⟨λu hu=>?_,a.2⟩;rcases acT.1 hu with rfl|hu;·have⟨f,d,e⟩:=a.1 t b;grind
 exact a.1 u hu
theorem tS.io{a:List ah}(h:(tS e size vs n full v).P H a):(tR size vs n v).P H a:=by refine⟨cP.sl h,λi o m c ex d=>?_,cP.below h⟩;rcases h with⟨_,_,_,h⟩|⟨f,g,aK,cap,b,rfl,h2,_⟩;all_goals grind
theorem Fs.kf:∀{fs:List (List ah)}{ts:List Th}{i j:Nat},Fs A H fs ts->ts[i]?=some t->ts[j]?=some t'->i<j->∃f g,t.P H f/\t'.P H g/\∀p∈f,p∉g|[],[],i,_,_,h,_,_=>by grind|[],_::_,_,_,h,_,_,_=>h.elim|_::_,[],_,_,h,_,_,_=>h.elim|b::fs,t0::ts,0,j+1,⟨h1,_,h3,a⟩,hi,hj,_=>by grind[List.getElem?_cons_zero,Option.some.injEq,List.getElem?_cons_succ,Fs.at,List.mem_of_getElem?]|b::fs,t0::ts,i+1,j+1,⟨_,_,_,a⟩,hi,hj,c=>by exact Fs.kf a hi hj aa|_::_,_::_,_,0,_,_,_,h=>by omega
variable{c:Cx}{s:List SI}{L:Kn}{d:Option ah}{l:List bD}
theorem RO.ab0(U:ak A H ts)(i j:Nat){x:aJ}{p:ah}{C cap:Nat}{ex:Bool}(h:∀H',ak A H' ts->RO ab c l s (bq L d v) H')(G:aT L x=.aD q o:=by exact cw)(D:lk L p=.slice r 0 C cap ex:=by exact cw)(hi:ts[i]?=some (tB e q vs):=by rfl)(hj:ts[j]?=some (tS m size ws n full (.slice r 0 C cap ex)):=by rfl)(u:i≠j:=by decide)(I:vs[o]?=some v:=by rfl):RO ab c (⟨d,.be x,none,[p],[]⟩::l) s L H:=by
 have w:q≠r:=by
  have⟨_,fs,E⟩:=U;rcases Nat.lt_or_gt_of_ne u with a|a
  .have⟨f,g,h1,h2,h3⟩:=E.kf hi hj a;rintro rfl;refine h3 q h1.1 ?_;rcases h2 with⟨_,_,_,h⟩|⟨J,K,aK,cap,y,rfl,h2,_⟩;·cases h
   injection h2 with h2;subst h2;exact acI ..
  have⟨f,g,h1,h2,h3⟩:=E.kf hj hi a;rintro rfl;refine h3 q ?_ h2.1;rcases h1 with⟨_,_,_,h⟩|⟨J,K,aK,cap,y,rfl,h2,_⟩;·cases h
  injection h2 with h2;subst h2;exact acI ..
 have⟨M,z⟩:=U.get i hi;have t:=tB.cell z I;have B:ak A ((H.set r .none).set r (H.get r)) ts:=U.bK rfl λk=>by
  rw[ai.aF];split;·rename_i e;rw[e]
  rename_i e;rw[ai.aF,an e]
 refine RO.BG (λ_ _ h=>by grind) (λ_ h=>by grind) (λac b=>⟨H.set r .none,?_,?_⟩) (λ_ _=>rfl) (h _ B)
 .simp only[dF,b.get D rfl,gZ,aH,b.gv G rfl];have:aY (H.set r .none) q o=some v:=by simp only[aY,ai.aF,an w];exact t
  unfold aY at this;split at this;all_goals simp_all[gY,dE,fW,aG,acg,bF]
 simp only[dF,b.get D rfl,gZ,di]
def fC(M:List ah):List Th:=M.map λm=>tX m (.deferred false)
theorem LJ:∀{M:List ah}{H:ai},ak A H (fC M++ts)->∃H',iw H M=some H'/\ak A H' ts|[],H,U=>⟨H,rfl,U⟩|m::M,H,U=>by have hg:H.get m=.deferred false:=U.ng 0 rfl;have⟨H',h1,h2⟩:=LJ (U.pq 0 rfl (.deferred true)).tail;simp[hg,h1,h2,iw]
theorem RJ.jl{K:KT}{c:List gE}{M:List ah}{a:bY}(hj:a=.none\/a=.ret)(U:ak A H (fC M++ts))(h:∀H',ak A H' ts->∃vs,qz L H' c vs/\K (fZ vs) H'):RJ ab ⟨mZ c K,M,none⟩ a [] L H:=λac b=>by have⟨H',h1,h2⟩:=LJ U;have⟨vs,h3,d⟩:=h H' h2;have:=h3.uF b;rcases hj with rfl|rfl<;>simp only[iN,mZ,h1,this]<;>exact d
theorem Ru.jl{K:KT}{a:List gE}{M:List ah}{s:List SI}(U:ak A H (fC M++ts))(h:∀H',ak A H' ts->∃vs,qz L H' a vs/\K (fZ vs) H'):Ru ab ⟨mZ a K,M,none⟩ (.code .ret::s) L H:=Ru.ret (RJ.rE (RJ.jl (.inr rfl) U h))
end
end
section
variable{ab:Nat->aV}{c:Cx}{s:List SI}{L:Kn}{A B H H':ai}{d:Option ah}{l:List bD}{ts us:List Th}{q r:ah}{e size n m o k i j bytes:Nat}{vs ws:List AV}{v w sv:AV}{full:Bool}
theorem LL{c:az AV}{n:Nat}:∀{m o:Nat}{l:List AV},fW c n o m=some l->l.length=m/\o+m<=max n o/\∀j(h:j<l.length),c.bp .ajS (o+j)=l[j]
 |0,o,l,h=>by simp only[fW,abv]at h;grind
 |m+1,o,l,h=>by
  simp only[fW]at h;split at h
  .split at h;·rename_i a hl;injection h with h;subst h;have⟨h1,h2,h3⟩:=LL hl;grind
   grind
  grind
theorem FA{cs:List AV}(h:dE H q o n=some cs)(a:k+m<=n):dE H q (o+k) m=some ((cs.drop k).take m):=by
 unfold dE at h⊢;split at h;·rename_i b c _ _ _ _ hg;have⟨h1,h2,h3⟩:=LL h;by_cases h0:m=0;all_goals grind[fW,uG,List.length_take,List.length_drop,Nat.add_assoc,Nat.min_eq_left]
 grind
theorem Sl.bK(h:Sl H size vs n sv):eV sv sv=true:=by rcases h with⟨rfl,_⟩|⟨_,_,_,_,_,_,_,_,_,_,rfl,_⟩;all_goals simp[eV,cC,ah.fg]
theorem rV{xs ts us:List Th}:(xs++ts++us).Perm (ts++(xs++us)):=by rw[<-ahD];exact aiq.append_right us
theorem cQ.bK{a:Type}{R:ai->a->List AV->Prop}{b:List a}(h:cQ size R H b sv):eV sv sv=true:=by obtain⟨vs,h,_⟩:=h;exact h.bK
theorem RO.xK(U:ak A H ts)(i:Nat){a x:aJ}{re:List gX}(h:∀H',ak A H' (ts.set i (tB e q (sp vs o ws)))->(∀ac,Le (bq L d .ajS) ac->dX ac H' re=true)/\RO ab c l s (bq L d .ajS) H')(f:aT L a=.aD q o:=by exact cw)(g:aT L x=.agg ws:=by exact cw)(hi:ts[i]?=some (tB e q vs):=by rfl)(j:o+ws.length<=vs.length:=by first|decide|exact aib rfl|simp|omega)(k:ws.length=n:=by first|rfl|simp)(m:cU ws=true:=by repeat first|rfl|assumption|(refine ao ?_ ?_)):RO ab c (⟨d,.store n a x,none,[],re⟩::l) s L H:=by have⟨u,p,_,hu⟩:=U.iO i hi;have⟨H',fp',h1,h2,h3⟩:=tB.sX (ws:=ws) p j m;have⟨r,t⟩:=h H' (hu h2 h3);refine RO.BG (λ_ _ h=>by grind) (λ_ h=>by grind) (λac b=>⟨H',?_,rfl⟩) r t;simp only[dF,aH,b.gv f rfl,b.gv g rfl,AV.cells,k,bi,h1]
theorem RO.FB{f:aJ}{args:List aJ}{fv:AV}{i:List AV}{p:ah}{re:List gX}{A cap off:Nat}{ex:Bool}(b:∀k,(∀j,j≠r->k.get j=H.get j)->k.next=H.next->YF ab fv i k λm H'=>m=v/\H'=k)(h:∀n,(∀j,n.get j=H.get j)->n.next=H.next->(∀ac,Le (bq L d v) ac->dX ac n re=true)/\RO ab c l s (bq L d v) n)(C:lk L p=.slice r off A cap ex:=by exact cw)(D:aT L f=fv:=by exact cw)(o:fv.br=true:=by first|rfl|assumption)(E:args.map (aT L)=i:=by rfl)(q:i.all AV.br=true:=by repeat first|rfl|assumption|(refine ad ?_ ?_)):RO ab c (⟨d,.call f args,none,[p],re⟩::l) s L H:=λac a=>by
 have t:args.map (gv ac)=i:=by subst E;exact ai7 λx F=>a.gv rfl (ai8.1 q _ (aio F))
 have⟨y,u⟩:=b (H.set r .none) (λj hj=>by rw[ai.aF,an hj]) rfl;have g:∀j,((H.set r .none).set r (H.get r)).get j=H.get j:=λj=>by
  rw[ai.aF];split;·rename_i e;rw[e]
  rename_i e;rw[ai.aF,an e]
 have⟨G,I⟩:=h _ g rfl;have⟨z,w⟩:=I _ (a.set d v);refine⟨max y z+1,?_⟩;simp only[Xo,Go.al.aB,dZ,dF,a.get C rfl,gZ,bi];rw[a.gv D o,t];refine(show Xf ab y fv i _ _ from u).mono (Nat.le_max_left ..) λm H' J=>?_;obtain⟨rfl,rfl⟩:=J;have K:dX (aO ac d m) (di (H.set r .none) [(r,H.get r)]) re=true:=G _ (a.set d m);rw[aG K];exact(show Xo ab z l _ _ _ from w).mono (Nat.le_max_right ..) λ_ _ h=>h
theorem RO.FC(U:ak A H ts){x y:aJ}{r:AV}{t:List AV}{re:List gX}(hs:(sv=.bh/\vs=[]/\n=0)\/∃i o,sv=.slice i o n n true/\Sl H size vs n sv)(b:Sl H size ws 1 r)(h:∀H' v,aS H H'->ak A H' (tS e size (vs++ws) (n+1) true v::ts)->(∀ac,Le (bq L d v) ac->dX ac H' re=true)/\RO ab c l s (bq L d v) H')(h1:cU ws=true:=by repeat first|rfl|assumption|(refine ao ?_ ?_))(u:aT L x=sv:=by exact cw)(w:aT L y=r:=by exact cw)(hb:(n+1)*bytes<=70368744177664:=by omega)(z:n+1<=70368744177664:=by omega):RO ab c (⟨d,.append e bytes size t false x y,none,[],re⟩::l) s L H:=by
 have f:(dT ((n+1)*bytes)&&dT (n+1))=true:=by rw[sW hb,sW z];rfl
 have hd:sv.br=true:=by rcases hs with⟨rfl,_⟩|⟨_,_,rfl,_⟩<;>rfl
 have key:∃v H',je e bytes size H sv 1 ws=some (v,H')/\aS H H'/\ak A H' (tS e size (vs++ws) (n+1) true v::ts):=by
  rcases hs with⟨rfl,rfl,rfl⟩|⟨i,o,rfl,hs⟩;·refine⟨.slice H.next 0 1 1 false,H.new (.cells (cq ws) (1*size) e true [] 0),?_,aS.new H _,U.push (aS.new H _) (cP.new (by simpa using b.length) false true) (rG H)⟩;rw[aif]at f;simp only[je,h1,ait,acg,bF,show ah8 1 0=false from rfl,f,bi]
  have a:=hs.fY;have j:=hs.length;refine⟨.slice H.next 0 (n+1) (n+1) false,H.new (.cells (cq (vs++ws)) ((n+1)*size) e true [] 0),?_,aS.new H _,U.push (aS.new H _) (cP.new (by rw[ahY,j,b.length,ajA]) false true) (rG H)⟩;have m:ai0 (n+1) n=false:=by cases p:ai0 (n+1) n with|false=>rfl|true=>have:=aib p;omega
  simp only[fY,dE]at a;cases hg:H.get i with
  |cells C D J I aK fz=>rw[hg]at a;simp only at a;cases k:fW C D o (n*size)with|none=>rw[k]at a;cases a|some K=>rw[k]at a;simp only[abv,ahW,true_and]at a;subst a;simp only[je,h1,ait,acg,bF,m,f,hg,k,bi]
  |_=>rw[hg]at a;cases a
 have⟨v,H',h2,h3,E⟩:=key;have⟨F,G⟩:=h H' v h3 E;have q:=b.br;refine RO.BG (λ_ _ h=>by grind) (λ_ h=>by grind) (λac g=>⟨H',?_,rfl⟩) F G;simp only[dF,aH,g.gv u hd,g.gv w q,b.fY,acg,bF,h2]
def lV(v:AV)(b:Nat):AV:=match v with|.slice i o _ cap ex=>.slice i o b cap ex|v=>v
theorem zO{b:Nat}(hs:Sl H size vs n sv)(hb:b<=n):Sl H size (vs.take (b*size)) b (lV sv b):=by
 rcases hs with⟨rfl,rfl,rfl⟩|⟨i,o,cap,ex,d,m,e,a,aK,fz,rfl,hg,f,hl,g,hi,c⟩;·have:b=0:=aa;subst this;exact .inl ⟨rfl,rfl,aC⟩
 have bG:b*size<=n*size:=aix _ hb;refine .inr ⟨i,o,cap,ex,d,m,e,a,aK,fz,rfl,hg,aa,?_,λj hj=>?_,hi,aa⟩;all_goals grind
theorem RO.lV{x y:aJ}{b:Nat}(hs:Sl B size vs n sv)(h:RO ab c l s (bq L d (Go.al.lV sv b)) H)(a:aT L x=sv:=by exact cw)(f:aT L y=.int k (.ofNat b):=by exact cw)(hb:b<=n:=by omega):RO ab c (⟨d,.gW e size x none (some y) none,none,[],[]⟩::l) s L H:=by
 rcases hs with⟨rfl,rfl,rfl⟩|⟨i,o,cap,ex,p,m,q,j,aK,fz,rfl,hg,r,hl,t,hi,g⟩;·have:b=0:=aa;subst this;refine RO.zu (m:=0) (b:=0) (a:=0) a rfl ?_ rfl h;simp only[kh,f];rfl
 refine RO.gW (m:=cap) (b:=b) (a:=0) a rfl ?_ rfl aC ?_;·simp only[kh,f];exact qk aa
 have e1:(if ex&&decide (cap=0)then o else o+0*size)=o:=by split<;>omega
 rw[e1,ajF,ajF,Option.isSome_none,Bool.or_false];exact h
theorem RO.FD{g:Type}{R:ai->g->List AV->Prop}{a:List g}(hg:aS B H){x y:aJ}{j kd:Nat}(hs:cQ size R B a sv)(h:∀q o cs(hj:j<a.length),R B a[j] cs->cs.length=size->(∀t v,cs[t]?=some v->∀{H'},aS B H'->aY H' q (o+t)=some v)->RO ab c l s (bq L d (.aD q o)) H)(k:aT L x=sv:=by exact cw)(m:aT L y=.int kd (.ofNat j):=by exact cw)(hj:j<a.length:=by first|assumption|omega):RO ab c (⟨d,.dI size x y,none,[],[]⟩::l) s L H:=by
 obtain⟨q,o,cap,ex,cs,rfl,h1,h2,h3,p⟩:=hs.at hj;have b:q.am<B.next.am:=by
  have⟨vs,n,_⟩:=hs;rcases n with⟨h,_⟩|⟨i,_,_,_,_,_,_,_,_,_,h,_,_,_,_,hi,_⟩;·cases h
  injection h with h;subst h;exact hi
 exact RO.dI (h q (o+j*size) cs hj h1 h2 λt v e H' f=>by rw[f.aY b];exact h3 t v e) k m hj
end
section
variable{ab:Nat->aV}{c:Cx}{s:List SI}{L:Kn}{A B H H':ai}{d:Option ah}{l:List bD}{ts us:List Th}{q r:ah}{e n m o k i bytes:Nat}{vs:List AV}{v w sv:AV}
def tU(e:Nat)(vs:List AV)(sv:AV):Th where
 P H b:=∃i off ex c m aK,b=i::aK/\sv=.slice i off vs.length vs.length ex/\H.get i=.cells c m e true aK 0/\(ex=true\/m=off+vs.length)/\off+vs.length<=m/\(∀j(h:j<vs.length),c.bp .ajS (off+j)=vs[j])/\∀p∈b,p.am<H.next.am
 fr h g hg:=by
  obtain⟨i,off,ex,c,m,aK,rfl,h1,h2,h3,d,f,a⟩:=h
  exact⟨i,off,ex,c,m,aK,rfl,h1,by rw[hg i (acI ..)];exact h2,h3,d,f,λp k=>aim (a p k) g⟩
 lt h:=by
  obtain⟨i,off,ex,c,m,aK,rfl,h1,h2,h3,d,f,a⟩:=h
  exact a
theorem tU.sl{a:List ah}(h:(tU e vs sv).P H a):Sl H 1 vs vs.length sv:=by obtain⟨i,off,ex,c,m,aK,rfl,h1,h2,h3,f,b,d⟩:=h;exact .inr ⟨i,off,_,ex,c,m,e,true,aK,0,h1,h2,aa,(ajo _).symm,b,d i (acI ..),afM _⟩
theorem ak.LM(U:ak A H ts)(i:Nat)(hi:ts[i]?=some (tU e vs sv):=by rfl):Sl H 1 vs vs.length sv:=by have⟨b,a⟩:=U.get i hi;exact tU.sl a
theorem ak.toU(U:ak A H ts)(i:Nat)(hi:ts[i]?=some (tS e 1 vs vs.length true (.slice q 0 vs.length vs.length true))):ak A H (ts.set i (tU e vs (.slice q 0 vs.length vs.length true))):=by
 refine U.as i hi λk a=>?_;rcases a with⟨_,_,_,h⟩|⟨l,d,aK,cap,f,rfl,h2,hg,c,g,m,a,b⟩;·grind
 injection h2 with h2 _ _ h3 n;subst h2;exact⟨q,0,true,d,_,aK,rfl,rfl,hg,.inl rfl,aa,λj hj=>by grind,a⟩
theorem RO.ab2(U:ak A H ts)(i:Nat){x:aJ}(h:∀a,ak A H (ts.set i (tU e vs a))->a.br=true->a.cW=true->a.cells=[a]->RO ab c l s (bq L d a) H)(hi:ts[i]?=some (tU e (v::vs) sv):=by rfl)(b:aT L x=sv:=by exact cw):RO ab c (⟨d,.gW e 1 x (some (.c (.int 3 (.ofNat 1)))) none none,none,[],[]⟩::l) s L H:=by
 have⟨r,f,_,hu⟩:=U.iO i hi;obtain⟨j,off,ex,g,m,aK,rfl,h1,h2,h3,k,n,o⟩:=f;subst h1;have q:pN H j e=true:=by simp only[pN,h2,aje]
 refine RO.EY (m:=vs.length+1) (b:=vs.length+1) (a:=1) b rfl rfl (by rfl) (by grind) (v:=.slice j (if ex&&decide (vs.length+1=1)then off else off+1*1) vs.length vs.length ex) aC (h _ (hu (t':=tU e vs _) (lQ.refl _ H) ⟨j,_,ex,g,m,aK,rfl,rfl,h2,?_,?_,λt p=>?_,o⟩) rfl rfl rfl);·grind
 .simp only[air]at k;split<;>omega
 split;·grind
 have:=n (t+1) (by simpa using p);grind
theorem RO.ab3(U:ak A H ts)(i:Nat){p:ah}{x:aJ}{C:List (Nat×Nat×aJ)}{D v:List AV}(w:AV)(h:∀u H' b,ak A H' (ts.set i (tU e (vs++[w]) b))->b.br=true->b.cW=true->b.cells=[b]->RO ab c l s (bq ((p,u)::L) d b) H')(hi:ts[i]?=some (tU e vs sv):=by rfl)(hl:nU L (dY D 1) C=some [w]:=by exact cw)(h1:w.cW=true:=by first|rfl|assumption)(E:∀u,aT ((p,u)::L) x=sv:=by(intro u;conv=>lhs;whnf)<;>rfl)(hb:(vs.length+1)*bytes<=70368744177664:=by omega)(hn:vs.length+1<=70368744177664:=by omega):RO ab c (⟨some p,.buildSlice e 1 D C,none,[],[]⟩::⟨d,.append e bytes 1 v false x (.t p),none,[],[]⟩::l) s L H:=by
 have g:cU [w]=true:=by simp[cU,h1]
 refine RO.buildSlice ?_ hl g;have hg:aS H (H.new (.cells (cq [w]) [w].length e true [] 0)):=aS.new H _;have y:=U.bR hg;have hs:Sl (H.new (.cells (cq [w]) [w].length e true [] 0)) 1 [w] 1 (.slice H.next 0 1 1 true):=(cP.new (H:=H) (e:=e) (size:=1) (n:=1) (vs:=[w]) rfl true true).sl;generalize O:H.new (.cells (cq [w]) [w].length e true [] 0)=H1 at*;have⟨Q,a,_,hu⟩:=y.iO i hi;obtain⟨j,off,ex,r,m,aK,rfl,G,F,I,J,K,M⟩:=a;subst G;have n:(!(dT ((vs.length+1)*bytes)&&dT (vs.length+1)))=false:=by rw[sW hb,sW hn];rfl
 have o:ai0 (vs.length+1) vs.length=false:=by cases z:ai0 (vs.length+1) vs.length with|false=>rfl|true=>have:=aib z;omega
 have hrd:fW r m off (vs.length*1)=some vs:=by have:=uG (c:=r) (n:=m) (l:=vs) (o:=off) J K;rw[ajo];exact this
 have f:∀j(hj:j<(vs++[w]).length),(cq (vs++[w])).bp .ajS (0+j)=(vs++[w])[j]:=λj hj=>by rw[aif];exact xg hj
 cases q:ex with
 |true=>subst q;refine RO.append (r:=(.slice H1.next 0 (vs.length+1) (vs.length+1) false,H1.new (.cells (cq (vs++[w])) ((vs.length+1)*1) e true [] 0))) hs.fY (by simp only[je,g,ait,acg,bF,o,n,F,hrd,bi]) (h _ _ _ (hu (fp':=[H1.next]) (t':=tU e (vs++[w]) _) ⟨(aS.new H1 _).nx,λp a=>.inr (by rw[abP]at a;subst a;exact afM _),λp _ a=>(aS.new H1 _).cM p a⟩ ⟨H1.next,0,false,_,_,[],rfl,aC,by rw[ai.cO,aG rfl],.inr aC,aC,f,λp a=>by rw[abP]at a;subst a;rw[ai.lr];omega⟩) rfl rfl rfl) (E _) rfl (by show lk (bq L (some p) _) p=_;simp only[bq,lk,ah.fg.2 rfl]) rfl
 |false=>
  subst q;have N:m=off+vs.length:=by rcases I with h|h;cases h;exact h
  have k:(true&&ah8 vs.length vs.length&&ah8 (off+vs.length*1) m&&ah8 e e&&ai0 0 m)=true:=by rw[N,ajo];simp[aje]
  refine RO.append (r:=(.slice H1.next 0 (vs.length+1) (vs.length+1) false,(H1.set j (.cells r m e false aK 0)).new (.cells (cq (vs++[w])) ((vs.length+1)*1) e true (j::aK) (0 - off)))) hs.fY (by simp only[je,g,ait,acg,bF,o,n,F,hrd,k,bi]) (h _ _ _ (hu (fp':=H1.next::j::aK) (t':=tU e (vs++[w]) _) ⟨by rw[ai.lr,ai.eH];omega,λp a=>?_,λp a P=>?_⟩ ⟨H1.next,0,false,_,_,j::aK,rfl,aC,by rw[ai.cO,ai.eH,aG rfl,Nat.zero_sub],.inr aC,aC,f,λp a=>?_⟩) rfl rfl rfl) (E _) rfl (by show lk (bq L (some p) _) p=_;simp only[bq,lk,ah.fg.2 rfl]) rfl
  .rcases acT.1 a with rfl|a;·exact .inr (afM _)
   exact .inl a
  .rw[ai.cO,ai.eH,an (bT aa),ai.aF,an λe:p=j=>a (by rw[e];exact acI ..)]
  rw[ai.lr,ai.eH];rcases acT.1 a with rfl|a;·omega
  have:=M p a;omega
end
section
variable{ab:Nat->aV}{c:Cx}{s:List SI}{L:Kn}{A B H H':ai}{d:Option ah}{l:List bD}{ts us:List Th}{q r:ah}{e n m o k i cap:Nat}{vs:List AV}{v w sv:AV}{full ex:Bool}
theorem RO.uX(U:ak A H ts)(i:Nat)(f:vs.length=n){a x:aJ}(h:∀H',ak A H' (ts.set i (tS e 1 (vs.set k w) n full (.slice q 0 n cap ex)))->RO ab c l s (bq L d .ajS) H')(g:aT L a=.aD q (0+k*1):=by exact cw)(j:aT L x=w:=by exact cw)(hi:ts[i]?=some (tS e 1 vs n full (.slice q 0 n cap ex)):=by rfl)(ho:k<vs.length:=by first|omega|assumption)(m:w.cW=true:=by first|rfl|assumption)(o:w.cells=[w]:=by first|rfl|assumption)(hd:w.br=true:=by first|rfl|assumption):RO ab c (⟨d,.store 1 a x,none,[],[]⟩::l) s L H:=by have e1:vs.map id=vs:=List.map_id vs;refine RO.gk (f:=id) (zs:=vs) U i w f (λH' b=>h H' ?_) g j (by rw[e1];exact hi) ho m o hd;rw[List.map_id]at b;exact b
end
section
variable{ab:Nat->aV}{c:Cx}{s:List SI}{L:Kn}{A B H H':ai}{d:Option ah}{l:List bD}{ts us:List Th}{q r:ah}{e n m o k i cap size:Nat}{vs:List AV}{v w sv:AV}{full ex:Bool}
theorem ab4{v:AV}{i:ah}(h:gZ v=some i):v.br=true:=by cases v<;>first|rfl|cases h
def uY(L:Kn):List ah->List (Option ah)
 |[]=>[]
 |p::a=>gZ (lk L p)::uY L a
theorem zP{ac:az AV}(a:Le L ac):∀{ps is:List ah}{H:ai},uY L ps=is.map some->(dF ac H ps).1.next=H.next/\(∀j,j∉is->(dF ac H ps).1.get j=H.get j)/\∀H1,(di H1 (dF ac H ps).2).next=H1.next/\∀j,(di H1 (dF ac H ps).2).get j=if j∈is then H.get j else H1.get j
 |[],[],H,_=>⟨rfl,λ_ _=>rfl,λH1=>⟨rfl,λj=>by rfl⟩⟩
 |[],_::_,H,h=>by trivial
 |_::_,[],H,h=>by trivial
 |p::ps,i::is,H,h=>by
  simp only[uY,ah2,aik]at h;have e1:ac.get .ajS p=lk L p:=a.get rfl (ab4 h.1);have⟨h1,h2,h3⟩:=zP a (ps:=ps) (is:=is) (H:=H.set i .none) h.2;simp only[dF,e1,h.1];refine⟨h1,λj hj=>?_,λH1=>⟨?_,λj=>?_⟩⟩;·simp_all[adT,ai.aF,an,acI]
  .exact(h3 H1).1
  simp only[di,ai.aF];by_cases b:j=i;all_goals simp[b,h3,an,acT,false_or,ai.aF,bF]
theorem Fs.move{A a H H':ai}(c:H'.next=H.next)(b:a.next.am=A.next.am)(hg:∀j,A.next.am<=j.am->H'.get j=H.get j):∀{fs:List (List ah)}{ts:List Th},Fs A H fs ts->Fs a H' fs ts|[],[],_=>trivial|[],_::_,h=>h.elim|_::_,[],h=>h.elim|f::fs,t::ts,⟨h1,h2,h3,d⟩=>⟨t.fr h1 (by grind) λj hj=>hg j (h2 j hj),λj hj=>by rw[b];exact h2 j hj,h3,Fs.move c b hg d⟩
theorem ak.show{c H1 d:ai}{is:List ah}(a:c.next=H.next)(h0:∀j,j∉is->c.get j=H.get j)(f:∀j∈is,j.am<H.next.am)(b:d.next=H1.next)(hu:∀j,d.get j=if j∈is then H.get j else H1.get j)(U:ak c H1 us):ak H d us:=by
 have⟨hg,fs,g⟩:=U;refine⟨⟨by rw[b,<-a];exact hg.nx,λj hj=>?_⟩,fs,g.move b (by rw[a]) λj hj=>?_⟩
 .rw[hu];split;·rfl
  rename_i e;rw[hg.cM j (by rw[a];exact hj),h0 j e]
 rw[hu,an λe=>?_];have:=f j e;rw[a]at hj;omega
theorem RO.uZ{f:aJ}{args:List aJ}{fv:AV}{i:List AV}{u is:List ah}{re:List gX}{Q:AV->List Th->Prop}(U:ak A H ts)(w:∀j∈is,j.am<H.next.am)(g:∀q,q.next=H.next->(∀j,j∉is->q.get j=H.get j)->YF ab fv i q λv H1=>∃e,ak q H1 e/\Q v e)(h:∀v e r,Q v e->aS H r->ak A r (e++ts)->(∀ac,Le (bq L d v) ac->dX ac r re=true)/\RO ab c l s (bq L d v) r)(D:uY L u=is.map some:=by exact cw)(E:aT L f=fv:=by exact cw)(y:fv.br=true:=by first|rfl|assumption)(F:args.map (aT L)=i:=by rfl)(z:i.all AV.br=true:=by repeat first|rfl|assumption|(refine ad ?_ ?_)):RO ab c (⟨d,.call f args,none,u,re⟩::l) s L H:=λac b=>by
 have C:args.map (gv ac)=i:=by subst F;exact ai7 λx G=>b.gv rfl (ai8.1 z _ (aio G))
 have⟨h1,h2,h3⟩:=zP b (H:=H) D;generalize I:dF ac H u=a at h1 h2 h3;have key:YF ab fv i a.1 λv H1=>dX (aO ac d v) (di H1 a.2) re=true/\∃n,Xo ab n l ⟨aO ac d v,c.M,c.R⟩ (di H1 a.2) (iN ab c.K s .none):=by refine(g a.1 h1 h2).mono λv H1 t=>?_;have⟨e,hl,J⟩:=t;have⟨N,O⟩:=h3 H1;have o:=hl.show h1 h2 w N O;have⟨P,S⟩:=h v e _ J o.gr (U.dq o);exact⟨P _ (b.set d v),S _ (b.set d v)⟩
 have⟨n,T⟩:=key;have⟨m,k⟩:=(w7 ab n).call (K:=λm v H1=>dX (aO ac d v) (di H1 a.2) re=true/\Xo ab m l ⟨aO ac d v,c.M,c.R⟩ (di H1 a.2) (iN ab c.K s .none)) (λm V v H k h=>⟨h.1,h.2.mono k λ_ _ h=>h⟩) ((mono ab n).call (afM _) (λv H1 t=>t.2.imp λm k=>⟨t.1,k⟩) T);refine⟨max n m+1,?_⟩;simp only[Xo,Go.al.aB,dZ,bi,I];rw[b.gv E y,C];refine(show Xf ab n fv i _ _ from k).mono (Nat.le_max_left ..) λv H1 p=>?_;rw[aG p.1];exact(show Xo ab m l _ _ _ from p.2).mono (Nat.le_max_right ..) λ_ _ h=>h
theorem RO.qB{x:aJ}{g is:List ah}(r:aY H q o=some v)(m:q∉is)(h:∀i,(∀j,i.get j=H.get j)->i.next=H.next->RO ab c l s (bq L d v) i)(t:aT L x=.aD q o:=by exact cw)(u:uY L g=is.map some:=by exact cw):RO ab c (⟨d,.be x,none,g,[]⟩::l) s L H:=λac e=>by
 have⟨h1,h2,h3⟩:=zP e (H:=H) u;generalize w:dF ac H g=b at h1 h2 h3;have⟨y,z⟩:=h3 b.1;have f:∀j,(di b.1 b.2).get j=H.get j:=λj=>by
  rw[z];split;·rfl
  rename_i k;exact h2 j k
 have⟨n,k⟩:=h _ f (y.trans h1) _ (e.set d v);refine⟨n+1,?_⟩;have a:aY b.1 q o=some v:=by simp only[aY,h2 q m];exact r
 have he:aH (.be x) ac b.1=some (v,b.1):=by
  simp only[aH,e.gv t rfl];unfold aY at a;split at a
  .rename_i cc n _ _ _ _ hg;split at a;·rename_i hb;injection a with a;have p:o<n:=aiV.mp hb;simp only[gY,dE,hg,fW,aG p,a,acg,bF];rfl
   cases a
  cases a
 simp[w,he,k,Xo,Go.al.aB,dZ,bi,dX]
theorem ak.px(U:ak A H ts)(i:Nat)(hi:ts[i]?=some (tB e q vs):=by rfl):A.next.am<=q.am/\q.am<H.next.am:=by have⟨c,a,b,_⟩:=U.iO i hi;exact⟨b q a.1,a.2.2.elim λ_ h=>h.2.2⟩
theorem ak.xL(U:ak A H ts)(i:Nat)(hi:ts[i]?=some (tS e size vs n full (.slice q o m cap ex)):=by rfl):A.next.am<=q.am/\q.am<H.next.am:=by
 have⟨d,a,b,_⟩:=U.iO i hi;have hb:=cP.below a;rcases a with⟨_,_,_,h⟩|⟨f,g,aK,cap,c,rfl,h2,_⟩;·grind
 injection h2 with h2;subst h2;exact⟨b _ (acI ..),hb _ (acI ..)⟩
end
end Go.al
end
