/- A part. No conditions. -/
import Derived.Test.YtcipmlnpjkngpaaGreatDoorA07
import Derived.Test.YtcipmlnpjkngpaaGreatDoorA08
import Derived.Test.YtcipmlnpjkngpaaGreatDoorA09
import Derived.Test.YtcipmlnpjkngpaaGreatDoorA10
import Derived.Laws.RangeAny
import Derived.ChangeArms
import Derived.DataReads
set_option linter.all false
open List renaming range->afD,getD->agt
open Nat renaming beq->aeF,blt->ae0,ble->afx
open List.Perm renaming swap->afA
open UInt8 renaming toNat->af5,ofNat->agp
open Eq renaming mpr->agu
noncomputable section
namespace Go.ak.R
abbrev AF:=418
abbrev cL:=47
abbrev iw:=78
abbrev cX:=24
abbrev tp:=227
abbrev fZ:=32
abbrev tq:=160
abbrev nY:=230
abbrev mf:=45
abbrev pp:=49
abbrev vS:=51
abbrev D6:=179
abbrev D7:=176
abbrev T':=159
abbrev Ua:=221
abbrev Ub:=115
abbrev Uc:=156
abbrev tu:=83
abbrev Ja:=117
abbrev rJ:=112
abbrev rL:=132
abbrev vT:=127
abbrev lG:=86
abbrev AG:=181
abbrev kC:=187
abbrev D8:=193
def p0:af:=.xH
def p1:af:=.xO p0
def p2:af:=.xI p0
def p3:af:=.xO p1
def p4:af:=.xI p1
def p5:af:=.xO p2
def p6:af:=.xI p2
def p7:af:=.xO p3
def p8:af:=.xI p3
def p9:af:=.xO p4
def gf:af:=.xI p4
def fJ:af:=.xO p5
def iS:af:=.xI p5
def k6:af:=.xO p6
def k7:af:=.xI p6
def nZ:af:=.xO p7
def qq:af:=.xI p7
def n6:af:=.xO p8
def n8:af:=.xI p8
def rM:af:=.xO p9
def tw:af:=.xI p9
def tx:af:=.xO gf
def rN:af:=.xI gf
def vU:af:=.xO fJ
def vV:af:=.xI fJ
def qv:af:=.xO iS
def tz:af:=.xI iS
def tA:af:=.xO k6
def yl:af:=.xI k6
def AH:af:=.xO k7
def rO:af:=.xI k7
def s9:af:=.xO nZ
def vW:af:=.xI nZ
def vX:af:=.xO qq
def yn:af:=.xI qq
def qy:af:=.xO n6
def tC:af:=.xI n6
def tD:af:=.xO n8
def rP:af:=.xI n8
def tE:af:=.xO rM
def tF:af:=.xI rM
def tG:af:=.xO tw
def tH:af:=.xI tw
def vY:af:=.xO tx
def vZ:af:=.xI tx
def wc:af:=.xO rN
def tJ:af:=.xI rN
def qz:af:=.xO vU
def mO:af:=.xI vU
def pq:af:=.xO vV
def rQ:af:=.xI vV
def wd:af:=.xO qv
def we:af:=.xI qv
def wi:af:=.xO tz
def rR:af:=.xI tz
def mP:af:=.xO tA
def qA:af:=.xI tA
def tL:af:=.xO yl
def tN:af:=.xI yl
def wl:af:=.xO AH
def wm:af:=.xI AH
def tO:af:=.xO rO
def wn:af:=.xI rO
def wt:af:=.xO s9
def AI:af:=.xI s9
def yo:af:=.xO vW
def yp:af:=.xI vW
def AJ:af:=.xO vX
def AL:af:=.xI vX
def AM:af:=.xO yn
def AN:af:=.xI yn
def AO:af:=.xO qy
def AP:af:=.xI qy
def AQ:af:=.xO tC
def AR:af:=.xI tC
def AS:af:=.xO tD
def AT:af:=.xI tD
def AU:af:=.xO rP
def Jb:af:=.xI rP
def Jc:af:=.xO tE
def Jd:af:=.xI tE
def Je:af:=.xO tF
def D9:af:=.xI tF
def Jf:af:=.xO tG
def Jg:af:=.xI tG
def Jh:af:=.xO tH
def Ji:af:=.xI tH
def Jj:af:=.xO vY
def Jk:af:=.xI vY
def Jl:af:=.xO vZ
def Jn:af:=.xI vZ
def Jo:af:=.xO wc
def Jp:af:=.xI wc
def Jq:af:=.xO tJ
def Jr:af:=.xI tJ
def Js:af:=.xO qz
def Jt:af:=.xI qz
def Ju:af:=.xO mO
def Jv:af:=.xI mO
def p99:af:=.xO pq
def acJ:af:=.xI pq
def acK:af:=.xO rQ
def acL:af:=.xI rQ
def acM:af:=.xO wd
def acN:af:=.xI wd
def acO:af:=.xO we
def acP:af:=.xI we
def acQ:af:=.xO wi
def acR:af:=.xI wi
def acS:af:=.xO rR
def acT:af:=.xI rR
def acU:af:=.xO mP
def acV:af:=.xI mP
def acW:af:=.xO qA
def acX:af:=.xI qA
def acY:af:=.xO tL
def acZ:af:=.xI tL
def ac0:af:=.xO tN
def ac1:af:=.xI tN
def ac2:af:=.xO wl
def ac3:af:=.xI wl
def ac4:af:=.xO wm
def ac5:af:=.xI wm
def ac6:af:=.xO tO
def ac7:af:=.xI tO
def ac8:af:=.xO wn
def ac9:af:=.xI wn
def ada:af:=.xO wt
def adb:af:=.xI wt
def adc:af:=.xO AI
def ade:af:=.xI AI
def adf:af:=.xO yo
def adg:af:=.xI yo
def adh:af:=.xO yp
def adi:af:=.xI yp
def adj:af:=.xO AJ
def adk:af:=.xI AJ
def adl:af:=.xO AL
def adm:af:=.xI AL
def adn:af:=.xO AM
def ado:af:=.xI AM
def adp:af:=.xO AN
def adq:af:=.xI AN
def adr:af:=.xO AO
def ads:af:=.xI AO
def adt:af:=.xO AP
def adu:af:=.xI AP
def adv:af:=.xO AQ
def adw:af:=.xI AQ
def adx:af:=.xO AR
def ady:af:=.xI AR
def adz:af:=.xO AS
def adA:af:=.xI AS
def adB:af:=.xO AT
def adC:af:=.xI AT
def adD:af:=.xO AU
def adE:af:=.xI AU
def adF:af:=.xO Jb
def adG:af:=.xI Jb
def adH:af:=.xO Jc
def adI:af:=.xI Jc
def adJ:af:=.xO Jd
def adK:af:=.xI Jd
def adL:af:=.xO Je
def adM:af:=.xI Je
def adN:af:=.xO D9
def adO:af:=.xI D9
def adP:af:=.xO Jf
def adQ:af:=.xI Jf
def adR:af:=.xO Jg
def adS:af:=.xI Jg
def adT:af:=.xO Jh
def adU:af:=.xI Jh
def adV:af:=.xO Ji
def adW:af:=.xI Ji
def adX:af:=.xO Jj
def adY:af:=.xI Jj
def adZ:af:=.xO Jk
def ad0:af:=.xI Jk
def ad1:af:=.xO Jl
def ad4:af:=.xI Jl
def ad5:af:=.xO Jn
def ad6:af:=.xI Jn
def ad7:af:=.xO Jo
def ad8:af:=.xI Jo
def ad9:af:=.xO Jp
def aea:af:=.xI Jp
def aeb:af:=.xO Jq
def aec:af:=.xI Jq
def aed:af:=.xO Jr
def aee:af:=.xI Jr
def aef:af:=.xO Js
def aeg:af:=.xI Js
def aeh:af:=.xO Jt
def aei:af:=.xI Jt
def aej:af:=.xO Ju
def aek:af:=.xI Ju
def ael:af:=.xO Jv
def aem:af:=.xI Jv
abbrev Ud:=3
abbrev Ue:=4
abbrev Uf:=6
abbrev Jw:=7
abbrev Jx:=8
abbrev D':=9
abbrev Ug:=10
abbrev Uh:=11
abbrev Ui:=12
abbrev Jy:=13
abbrev Uj:=14
abbrev Uk:=23
abbrev Jz:=24
abbrev Ul:=25
abbrev JA:=26
abbrev Um:=27
abbrev Un:=28
abbrev Uo:=29
abbrev Up:=30
abbrev Uq:=31
abbrev Ur:=32
abbrev Us:=33
abbrev Ut:=34
abbrev Uu:=35
abbrev Uv:=36
abbrev Uw:=38
abbrev Ux:=43
abbrev Uy:=44
abbrev JB:=46
abbrev JC:=49
abbrev Uz:=53
abbrev UA:=54
abbrev UB:=55
abbrev UC:=56
abbrev UD:=57
abbrev UE:=58
abbrev UF:=59
abbrev UG:=60
abbrev UH:=61
abbrev UI:=62
abbrev UJ:=63
abbrev UK:=71
abbrev UL:=75
abbrev UM:=76
abbrev UN:=77
abbrev UO:=78
abbrev UP:=79
abbrev UQ:=80
abbrev UR:=81
abbrev US:=84
abbrev JD:=85
abbrev UT:=90
abbrev JE:=91
abbrev UU:=94
abbrev UV:=97
abbrev Ea:=98
abbrev UW:=100
abbrev yq:=101
abbrev UX:=102
abbrev UY:=103
abbrev UZ:=105
abbrev U0:=106
abbrev U1:=107
abbrev U2:=108
abbrev U3:=109
abbrev U4:=110
abbrev U5:=111
abbrev U6:=119
abbrev JF:=125
abbrev JG:=126
abbrev Eb:=127
abbrev U7:=128
abbrev Ec:=129
abbrev U8:=130
abbrev U9:=131
abbrev Ed:=132
abbrev U':=133
abbrev Va:=134
abbrev AX:=142
abbrev Vb:=143
abbrev AY:=144
abbrev Vc:=153
abbrev Ve:=154
abbrev Vf:=179
abbrev Vg:=205
abbrev Vh:=206
abbrev Vi:=210
abbrev Ee:=211
abbrev JH:=212
abbrev Vj:=213
abbrev Vk:=214
abbrev Vl:=217
abbrev Vm:=251
abbrev Vn:=252
abbrev Vo:=299
abbrev JI:=301
abbrev Vp:=302
abbrev JJ:=303
abbrev Vq:=304
abbrev Vr:=305
abbrev Vs:=359
abbrev JK:=360
abbrev JL:=361
abbrev Vt:=362
abbrev Vu:=389
abbrev Vv:=394
abbrev Ef:=395
abbrev Vw:=396
abbrev Vx:=398
abbrev JM:=422
abbrev JN:=5
namespace Y
abbrev m(d a:af):=O d (.bw (T a))
abbrev l(d a:af):=O d (.bk (T a))
abbrev a(d:af)(n:Nat)(a:af):=O d (.jx n (T a))
abbrev x(d:af)(n:Nat)(a b:af):=O d (.dO n (T a) (T b))
abbrev s(n:Nat)(a b:af):=N (.store n (T a) (T b))
abbrev k(d:af)(n:Nat):=O d (.bw (I 3 n))
abbrev z(d a:af):=O d (.kn (T a))
abbrev e(d a:af)(n:Nat):=O d (.arith .eql 3 (T a) (I 3 n))
abbrev eu(d a:af)(n:Nat):=O d (.arith .eql 2 (T a) (I 2 n))
abbrev f(d:af):=O d (.bw (C (.bool false)))
abbrev tru(d:af):=O d (.bw (C (.bool true)))
abbrev ld(d:af)(n:Nat)(a:af):=O d (.fL n (T a))
abbrev gm(d a g:af)(b:Bool):=G d (.bw (T a)) g b
abbrev gl(d a g:af)(b:Bool):=G d (.bk (T a)) g b
abbrev ga(d:af)(n:Nat)(a g:af)(b:Bool):=G d (.jx n (T a)) g b
abbrev u(d a b:af):=O d (.arith .lss 3 (T a) (T b))
abbrev pl(d a:af)(n:Nat):=O d (.arith .add 3 (T a) (I 3 n))
abbrev b(d:af)(n:Nat)(a:af):=O d (.box n (T a))
abbrev o(d a b:af):=O d (.pick (T a) (C (.bool true)) (T b))
abbrev y(d a b:af):=O d (.pick (T a) (T b) (C (.bool false)))
abbrev no(d a:af):=O d (.unary .not (T a))
abbrev c(d:af)(n:Nat)(l:List aK):=O d (.call (C (.func n [] [])) l)
abbrev ex(d a:af)(n:Nat):=O d (.extract (T a) n)
abbrev nc(d a:af):=O d (.nilCheck (T a))
abbrev nl(d:af):=O d (.bw (C .aG))
abbrev cT:=C (.bool true)
abbrev cF:=C (.bool false)
abbrev cN:=C .aG
abbrev r:=bg.region
abbrev S:=bg.seq
abbrev H:=bg.cond
abbrev Bl:=bg.block
abbrev Lp:=bg.loop
abbrev X:=bg.exit
abbrev q(l:List bu)(x:bg):bg:=.seq (.region l) x
abbrev t1:=T p1
abbrev t9:=T p9
abbrev Vy:=T gf
abbrev Vz:=T iS
abbrev VA:=T nZ
abbrev VB:=T tw
abbrev VC:=T vV
abbrev VD:=T tz
abbrev VE:=T tA
abbrev VF:=T s9
abbrev VG:=T vW
abbrev VH:=T tC
abbrev VI:=T tD
abbrev VJ:=T tE
abbrev VK:=T tF
abbrev VL:=T tG
abbrev VM:=T vY
abbrev VN:=T wc
abbrev t51:=T wd
abbrev VO:=T we
abbrev t53:=T wi
abbrev VP:=T qA
abbrev VQ:=T tL
abbrev VS:=T tN
abbrev i0:=I 3 0
abbrev v0:=Go.ak.i 3 0
end Y
open Y
def JO:bg:=(q [b p1 24 p0,f p2] (S (q [ld p9 4 p1,c gf 4 [t9]] (H Vy (q [c fJ 5 [],m p2 fJ] .ret) .skip)) (q [ld iS 4 p1,c k6 6 [Vz],O p3 (.alloc 24 [(.str []),v0,v0,.aG]),s 4 p3 k6] (q [ld nZ 4 p3,c qq 7 [VA],m k7 qq,ex n6 k7 0,ex n8 k7 1,m p4 n6,m p5 n8] (q [ld tw 4 p3,c tx 8 [VB],m rM tx,ex rN rM 0,ex vU rM 1,m p6 rN,m p7 vU] (q [ld vV 4 p1,c qv 9 [VC],m p8 qv] (S (q [ld tz 4 p3,ld tA 4 p1,c yl 10 [VD,VE],no AH yl,m rO AH,gm s9 p5 rO false,gm vW p8 rO false,G vX (.arith .neq 3 VF VG) rO false,o yn rO vX,m qy yn,gm tC p7 qy false,gm tD p8 qy false,G rP (.arith .neq 3 VH VI) qy false,o tE qy rP] (H VJ (q [f p2] .ret) .skip)) (S (q [m tF p8,O tG (.arith .neq 3 VK i0)] (H VL (q [m tH p4,z vY tH,m vZ p6,z wc vZ,O tJ (.arith .add 3 VM VN),e qz tJ 0,m mO qz,G pq (.call (C (.func 5 [] [])) []) mO true,y rQ mO pq,m p2 rQ] .ret) .skip)) (q [m wd p4,ld we 4 p1,c wi 12 [VO],c rR 11 [t51,t53],m mP rR,gm qA p6 mP true,G tL (.fL 4 t1) mP true,G tN (.call (C (.func 14 [] [])) [VQ]) mP true,G wl (.call (C (.func 13 [] [])) [VP,VS]) mP true,y wm mP wl,m tO wm,G wn (.call (C (.func 5 [] [])) []) tO true,y wt tO wn,m p2 wt] .ret)))))))))
def VT:aX:=.code 64 [.tmp p2] JO
structure Tb(ac:Nat->aX):Prop where
 VU:ac 3=VT
 VV:ac 4=S6.1
 VW:ac 6=SQ.1
 JP:ac 7=R6.1
 JQ:ac 8=SD.1
 VX:ac 9=SK.1
 VY:ac 10=T8.1
 VZ:ac 11=TV.1
 V0:ac 12=T7.1
 V1:ac 13=Se.1
 V2:ac 14=Tz.1
 V3:ac 23=St.1
 JR:ac 24=SH.1
 V4:ac 25=Ss.1
 JS:ac 26=Tl.1
 V5:ac 27=SS.1
 V6:ac 28=Sn.1
 V7:ac 29=TE.1
 V8:ac 30=Sw.1
 V9:ac 31=SY.1
 V':ac 32=TB.1
 Wa:ac 33=T3.1
 Wb:ac 34=S5.1
 Wc:ac 35=TT.1
 Wd:ac 36=TU.1
 We:ac 38=TM.1
 Wf:ac 43=Tn.1
 Wg:ac 44=T6.1
 Wh:ac 46=Tp.1
 Wi:ac 49=Sr.1
 Wj:ac 52=Sx.1
 Wk:ac 53=Sp.1
 Wl:ac 54=S9.1
 Wm:ac 55=Sf.1
 Wn:ac 56=R7.1
 Wo:ac 57=S7.1
 Wp:ac 58=S8.1
 Wq:ac 59=Ty.1
 Ws:ac 60=T0.1
 Wt:ac 61=Sa.1
 Wu:ac 62=TC.1
 Wv:ac 63=Sg.1
 Ww:ac 71=SU.1
 Wx:ac 75=Tw.1
 JT:ac 76=Tq.1
 Wy:ac 77=SG.1
 Wz:ac 78=SM.1
 WA:ac 79=Sc.1
 WB:ac 80=R'.1
 WC:ac 81=TN.1
 WD:ac 84=TA.1
 JU:ac 85=TD.1
 WE:ac 90=Ta.1
 WF:ac 91=SO.1
 WG:ac 94=TG.1
 WH:ac 97=Tk.1
 WI:ac 98=To.1
 WJ:ac 99=SE.1
 WK:ac 100=TX.1
 WL:ac 101=Sk.1
 WM:ac 102=Tf.1
 Eg:ac 103=SA.1
 WN:ac 104=R3.1
 WO:ac 105=Si.1
 WP:ac 106=SL.1
 WQ:ac 107=TS.1
 WR:ac 108=SN.1
 WS:ac 109=Tx.1
 WT:ac 110=SR.1
 WU:ac 111=Sh.1
 WV:ac 119=Sd.1
 WW:ac 125=R9.1
 JV:ac 126=Te.1
 WX:ac 127=SP.1
 WY:ac 128=TK.1
 WZ:ac 129=T4.1
 W0:ac 130=Sv.1
 W1:ac 131=R5.1
 W2:ac 132=RZ.1
 W3:ac 133=Sj.1
 W4:ac 134=Tr.1
 W5:ac 142=T5.1
 W6:ac 143=TL.1
 W7:ac 144=Tu.1
 W8:ac 152=R0.1
 Eh:ac 153=SJ.1
 W9:ac 154=TF.1
 Xa:ac 179=TZ.1
 Xb:ac 205=Tj.1
 Xd:ac 206=Td.1
 JW:ac 207=TH.1
 Xe:ac 208=TJ.1
 Xg:ac 209=Tc.1
 Xh:ac 210=SV.1
 Xi:ac 211=Tg.1
 Xj:ac 212=Ts.1
 Xk:ac 213=SX.1
 Xl:ac 214=SW.1
 Xm:ac 215=R4.1
 Xn:ac 216=R2.1
 Xp:ac 217=T1.1
 Xq:ac 251=TP.1
 Xr:ac 252=T9.1
 Xs:ac 299=Sz.1
 Xt:ac 300=TR.1
 JX:ac 301=TY.1
 Xu:ac 302=R8.1
 Xv:ac 303=Sy.1
 Xw:ac 304=SZ.1
 Xx:ac 305=Tt.1
 Xy:ac 306=Tm.1
 Xz:ac 359=TQ.1
 JY:ac 360=Tv.1
 XA:ac 361=TO.1
 XB:ac 362=Ti.1
 XC:ac 389=T2.1
 XD:ac 394=SC.1
 XE:ac 395=Sq.1
 XF:ac 396=Su.1
 XG:ac 398=SF.1
 XH:ac 420=SB.1
 XI:ac 421=TI.1
 XJ:ac 422=TW.1
 XK:ac 443=Sb.1
 XL:ac 1004=.eF (xZ 98)
 XM:ac 1005=.eF (x6 98)
end Go.ak.R
namespace Go.ak.R
section
variable{ac:Nat->aX}{b σ:Type}
def qB(agg:Bool)(cs:List AV):AV:=if agg then .agg cs else cs.headD .agx
def yr(size:Nat)(agg:Bool)(x:aK):bC:=if agg then .fL size x else .bk x
theorem RO.JZ{c:Cx}{l:List bu}{s:List SI}{L:Kn}{H:ai}{d:Option af}{size o:Nat}{agg:Bool}{cs:List AV}{q:af}{x:aK}(hc:cs.length=size)(h1:agg=false->size=1)(hat:∀t v,cs[t]?=some v->bx H q (o+t)=some v)(hrd:du H q o size=some cs)(h:RO ac c l s (bj L d (qB agg cs)) H)(hx:aT L x=.aD q o:=by exact cw):RO ac c (⟨d,yr size agg x,none,[],[]⟩::l) s L H:=by
 cases agg with
 |true=>exact RO.fL h (hx:=hx) (hc:=hrd)
 |false=>
  have:=h1 rfl;subst this;obtain⟨v,rfl⟩:∃v,cs=[v]:=by match cs,hc with|[v],_=>exact⟨v,rfl⟩
  exact RO.bk h (hx:=hx) (hc:=hat 0 v rfl)
def mQ(ac:Nat->aX)(A:ai)(fv:AV)(R:ai->b->List AV->Prop)(agg:Bool)(T:σ->List Th)(I:σ->Prop)(st:σ->b->Bool×σ)(la:List b):Prop:=
 ∀s a cs H us,a∈la->I s->R A a cs->al A H (T s++us)->YF ac fv [qB agg cs] H λv c=>v=.bool (st s a).1/\I (st s a).2/\∃d,al A c (T (st s a).2++d++us)
def kD(st:σ->b->Bool×σ):σ->List b->Nat->Option Nat×σ
 |s,[],_=>(none,s)
 |s,a::l,k=>if(st s a).1 then(some k,(st s a).2)else kD st (st s a).2 l (k+1)
def dC(st:σ->b->Bool×σ):σ->List b->Bool×σ
 |s,[]=>(true,s)
 |s,a::l=>if(st s a).1 then dC st (st s a).2 l else(false,(st s a).2)
theorem J2(st:σ->b->Bool×σ):∀(l:List b)(s:σ)(k:Nat),((kD (λs a=>(!(st s a).1,(st s a).2)) s l k).1.isSome=!(dC st s l).1)/\(kD (λs a=>(!(st s a).1,(st s a).2)) s l k).2=(dC st s l).2
 |[],s,k=>by simp[kD,dC]
 |a::l,s,k=>by
  simp only[kD,dC];cases h:(st s a).1;·simp
  simpa using J2 st l (st s a).2 (k+1)
def J4:Option Nat->AV
 |some k=>aN k
 |none=>.int 3 (.negSucc 0)
theorem XN(o:Option Nat):∃z,J4 o=aI z/\decide (0<=z)=o.isSome:=by cases o with|none=>exact⟨-1,rfl,rfl⟩|some k=>exact⟨.ofNat k,rfl,aC⟩
def Ei(ld:bC)(size:Nat):bg:=(.seq (.region [O p4 (.bw (I 3 0))]) (.seq (.seq (.region [O p6 (.bw (T p0)),O p7 (.kn (T p6)),O p8 (.bw (I 3 0))]) (.block 0 (.loop (.seq (.region [O p9 (.arith .lss 3 (T p8) (T p7))]) (.seq (.cond (T p9) .skip (.exit 0)) (.seq (.block 1 (.seq (.region [O gf (.bw (T p8)),O p5 (.bw (T gf))]) (.seq (.region [O fJ (.bw (T p1)),O iS (.bw (T p0)),O k6 (.bw (T p5)),O k7 (.dO size (T iS) (T k6)),O nZ ld,O qq (.call (T fJ) [(T nZ)])]) (.cond (T qq) (.seq (.region [O n6 (.bw (T p5)),O p4 (.bw (T n6))]) .ret) .skip)))) (.region [O n8 (.arith .add 3 (T p8) (I 3 1)),O p8 (.bw (T n8))]))))))) (.seq (.region [O p4 (.bw (J 3 0))]) .ret)))
theorem XO{f q size:Nat}{agg:Bool}(w:ac f=.code q [.tmp p4] (Ei (yr size agg (ak.T k7)) size))(C:2<=q)(h1:agg=false->size=1){A H:ai}{fv sv:AV}{R:ai->b->List AV->Prop}{T:σ->List Th}{I:σ->Prop}{st:σ->b->Bool×σ}{la:List b}{s:σ}{us:List Th}(D:fv.bq=true)(p:mQ ac A fv R agg T I st la)(x:∀a cs,R A a cs->(qB agg cs).bq=true)(hs:cK size R A la sv)(hl:la.length<=1000000)(n:I s)(U:al A H (T s++us)){K:KT}(r:∀g d,I (kD st s la 0).2->al A g (T (kD st s la 0).2++d++us)->K (J4 (kD st s la 0).1) g):YN ac f [sv,fv] H K:=by
 have⟨hd,_,_,F⟩:=hs.all;refine YF.code w (by simp;omega) ?_;refine au ?_;refine Ru.nm λS M y t=>?_;refine Ru.bM t (up (P:=λk=>∀h i,kD st i (la.drop k) k=kD st s la 0->I i->(∃d,al A h (T i++d++us))->Ru ac _ S ([(p8,aN k)]++pk M [p0,p1,p7]) h) la.length (λk G z h i c n U=>?_) 0 ab _ s rfl n ⟨[],by simpa using U⟩);subst y;subst t;refine Ru.loop ?_;refine au ?_;refine Ru.cond (λe=>?_) (λe=>?_)
 .rw[aeE e]at c;simp only[kD]at c;obtain⟨d,U⟩:=U;refine au ?_;refine RO.bW U.gr hs λJ o1 cs hj u B hat hrd=>?_;have E:=x _ _ u;refine RO.JZ B h1 hat hrd ?_;refine RO.cl ((p i la[k] cs h (d++us) (acI e) n u (by simpa using U)).mono ?_);rintro v g⟨rfl,j,l,m⟩;refine au ?_;refine Ru.eh (λo=>?_) (λo=>?_);·rw[o]at c;simp only[bc]at c;refine au ?_;refine Ru.aP ?_;have:=r g (l++d) (by rw[<-c];exact j) (by rw[<-c];simpa using m);rw[<-c]at this;exact this
  rw[o]at c;simp only[abu,bA]at c;refine au ?_;exact Ru.wk (z (k+1) ab ab g _ c j ⟨l++d,by simpa using m⟩)
 rw[af3 ab]at c;simp only[kD]at c;obtain⟨d,U⟩:=U;refine Ru.exitTo ?_;refine au ?_;refine Ru.aP ?_;have:=r h d (by rw[<-c];exact n) (by rw[<-c];exact U);rw[<-c]at this;exact this
def J5(g:Nat):bg:=(.seq (.region [O p4 (.bw (C (.bool false)))]) (.seq (.region [O p5 (.bw (T p0)),O p6 (.bw (T p1)),O p7 (.call (C (.func g [] [])) [(T p5),(T p6)]),O p8 (.arith .geq 3 (T p7) (I 3 0)),O p4 (.bw (T p8))]) .ret))
def XP(e cl a:Nat):bg:=(.seq (.region [O p3 (.box e (T p1)),O p4 (.bw (C (.bool false)))]) (.seq (.region [O p5 (.bw (T p0)),O p6 (.mu cl [] [(T p3)]),O p7 (.call (C (.func a [] [])) [(T p5),(T p6)]),O p8 (.unary .not (T p7)),O p4 (.bw (T p8))]) .ret))
def XQ:bg:=(.seq (.region [O p3 (.bw (C (.bool false)))]) (.seq (.region [O p4 (.bk (T p1)),O p5 (.bw (T p0)),O p6 (.call (T p4) [(T p5)]),O p7 (.unary .not (T p6)),O p3 (.bw (T p7))]) .ret))
def XR(t n:Nat):bg:=(.seq (.region [O p2 (.box t (T p0)),O p3 (.bw (C (.bool false)))]) (.seq (.region [O p4 (.bk (T p1)),O p5 (.fL n (T p2)),O p6 (.call (T p4) [(T p5)]),O p7 (.unary .not (T p6)),O p3 (.bw (T p7))]) .ret))
section
variable{A H:ai}{fv sv:AV}{R:ai->b->List AV->Prop}{T:σ->List Th}{I:σ->Prop}{st:σ->b->Bool×σ}{la:List b}{s:σ}{us:List Th}
theorem XS{f g l mt size:Nat}{agg:Bool}(m:ac f=.code mt [.tmp p4] (J5 g))(t:2<=mt)(hg:ac g=.code l [.tmp p4] (Ei (yr size agg (ak.T k7)) size))(e:2<=l)(h1:agg=false->size=1)(h:fv.bq=true)(i:mQ ac A fv R agg T I st la)(n:∀a cs,R A a cs->(qB agg cs).bq=true)(hs:cK size R A la sv)(hl:la.length<=1000000)(o:I s)(U:al A H (T s++us)){K:KT}(p:∀c d,I (kD st s la 0).2->al A c (T (kD st s la 0).2++d++us)->K (.bool (kD st s la 0).1.isSome) c):YN ac f [sv,fv] H K:=by have⟨hd,_,_,u⟩:=hs.all;refine YF.code m (by simp;omega) ?_;refine au ?_;refine RO.cl (XO hg e h1 h i n hs hl o U λc d j k=>?_);obtain⟨z,q,r⟩:=XN (kD st s la 0).1;rw[q];refine RO.geq (b:=0) ?_;rw[r];refine au ?_;exact Ru.aP (p c d j k)
theorem yt{f g h r mt t size e cl:Nat}{agg:Bool}(u:ac f=.code t [.tmp p4] (XP e cl g))(C:2<=t)(hg:ac g=.code mt [.tmp p4] (J5 h))(m:2<=mt)(v:ac h=.code r [.tmp p4] (Ei (yr size agg (ak.T k7)) size))(n:2<=r)(h1:agg=false->size=1)(D:fv.bq=true)(o:fv.db=true)(c:fv.cells=[fv])(p:∀q,mQ ac A (.func cl [] [.aD q 0]) R agg (λs=>tB e q [fv]::T s) I (λs a=>(!(st s a).1,(st s a).2)) la)(w:∀a cs,R A a cs->(qB agg cs).bq=true)(hs:cK size R A la sv)(hl:la.length<=1000000)(x:I s)(U:al A H (T s++us)){K:KT}(y:∀k l,I (dC st s la).2->al A k (T (dC st s la).2++l++us)->K (.bool (dC st s la).1) k):YN ac f [sv,fv] H K:=by have⟨hd,_,_,E⟩:=hs.all;obtain⟨z,B⟩:=J2 st la s 0;refine YF.code u (by simp;omega) ?_;refine au ?_;refine RO.cG U (λF q d=>?_) (ho:=by rw[c];exact ao o rfl);rw[c]at d;refine au ?_;refine RO.cl (XS hg m v n h1 rfl (p q) w hs hl x d λk l i j=>?_);rw[z];refine au ?_;rw[B]at i j;refine Ru.aP ?_;rw[Bool.not_not];exact y k l i j.tail
theorem Ej{cl h e:Nat}(j:ac cl=.code h [.tmp p3] XQ)(n:2<=h)(o:fv.bq=true)(k:∀a cs,R A a cs->(qB false cs).bq=true)(c:mQ ac A fv R false T I st la)(q:af):mQ ac A (.func cl [] [.aD q 0]) R false (λs=>tB e q [fv]::T s) I (λs a=>(!(st s a).1,(st s a).2)) la:=by intro s a cs H us l m i U;have p:=k a cs i;refine YF.code j (by simp;omega) ?_;refine aS ?_;refine RO.cl ((c s a cs H (tB e q [fv]::us) l m i U.AC).mono ?_);rintro v r⟨rfl,d,f,g⟩;refine aS ?_;exact Ru.aP ⟨rfl,d,f,by have:=g.rH;simpa using this⟩
theorem J6{cl j e t n:Nat}(m:ac cl=.code j [.tmp p3] (XR t n))(u:2<=j)(w:fv.bq=true)(o:∀a cs,R A a cs->cs.length=n/\cE cs=true)(f:mQ ac A fv R true T I st la)(q:af):mQ ac A (.func cl [] [.aD q 0]) R true (λs=>tB e q [fv]::T s) I (λs a=>(!(st s a).1,(st s a).2)) la:=by intro s a cs H us hm p k U;obtain⟨c,l⟩:=o a cs k;refine YF.code m (by simp;omega) ?_;refine au ?_;refine RO.cG U (λr d U=>?_) (v:=.agg cs);refine au ?_;refine RO.gR U 1 ?_;refine RO.cr U 0 (m:=n) ?_ (hm:=by show 0+n<=cs.length;omega);rw[show((AV.agg cs).cells.drop 0).take n=cs by show(cs.drop 0).take n=cs;rw[agm,<-c,af4]];refine RO.cl ((f s a cs r (tB t d cs::tB e q [fv]::us) hm p k (al.eC (xs:=[tB t d cs,tB e q [fv]]) U)).mono ?_);rintro v x⟨rfl,g,h,i⟩;refine aS ?_;exact Ru.aP ⟨rfl,g,h,by have:=(al.jU (xs:=[tB t d cs,tB e q [fv]]) i).tail;simpa using this⟩
end
end
end Go.ak.R
namespace Go.ak
section
def tX(q:af)(o:bO):Th where
 P H a:=q∈a/\(∀j∈a,j=q)/\H.get q=o/\q.az<H.next.az
 fr h b hg:=⟨h.1,h.2.1,by rw[hg _ h.1];exact h.2.2.1,ae2 h.2.2.2 b⟩
 lt h:=by intro j hj;rw[h.2.1 j hj];exact h.2.2.2
variable{A H H':ai}{ts us:List Th}{q:af}{o o':bO}
variable{ac:Nat->aX}{c:Cx}{s:List SI}{L:Kn}{d:Option af}{l:List bu}
theorem al.AZ(U:al A H ts)(o:bO):al A (H.new o) (tX H.next o::ts):=U.push (fp:=[H.next]) (aZ.new H o) ⟨aaN.2 rfl,λj hj=>aaN.1 hj,by rw[ai.cZ,aH rfl],by rw[ai.lD];omega⟩ (rI H)
theorem al.qC(U:al A H ts)(i:Nat)(hi:ts[i]?=some (tX q o))(o':bO):al A (H.set q o') (ts.set i (tX q o')):=by
 obtain⟨b,a,_,hu⟩:=U.iu i hi;refine hu (fp':=[q]) ⟨Nat.le_of_eq (by rw[ai.eI]),λj hj=>?_,λj hj f=>?_⟩ ⟨aaN.2 rfl,λj hj=>aaN.1 hj,by rw[ai.aJ,aH rfl],by rw[ai.eI];exact a.2.2.2⟩;·rw[aaN]at hj;subst hj;exact .inl a.1
 rw[ai.aJ,ap λe:j=q=>hj (by rw[e];exact a.1)]
theorem al.n9(U:al A H ts)(i:Nat)(hi:ts[i]?=some (tX q o)):H.get q=o:=by obtain⟨b,a⟩:=U.get i hi;exact a.2.2.1
theorem RO.oK(U:al A H ts){x:aK}{t:List Nat}(h:∀H' q,al A H' (tX q (.jN t t 0)::ts)->RO ac c l s (bj L d (.aD q 0)) H')(b:aT L x=.str t:=by exact cw):RO ac c (⟨d,.oK x,none,[],[]⟩::l) s L H:=RO.op (λaa a=>by simp only[aE,a.gv b rfl]) (h _ _ (U.AZ _))
theorem RO.XT(U:al A H ts)(i:Nat){x:aK}{t:List Nat}{k:Nat}(h:RO ac c l s (bj L d (.tuple [.bool false])) H)(hi:ts[i]?=some (tX q (.jN t [] k)):=by rfl)(b:aT L x=.aD q 0:=by exact cw):RO ac c (⟨d,.qQ x,none,[],[]⟩::l) s L H:=RO.op (λaa a=>by simp only[aE,a.gv b rfl,U.n9 i hi]) h
theorem RO.XU(U:al A H ts)(i:Nat){x:aK}{t r:List Nat}{k b:Nat}(hb:b<128)(h:∀H',al A H' (ts.set i (tX q (.jN t r (k+1))))->RO ac c l s (bj L d (.tuple [.bool true,.int 3 (.ofNat k),.int 2 (.ofNat b)])) H')(hi:ts[i]?=some (tX q (.jN t (b::r) k)):=by rfl)(e:aT L x=.aD q 0:=by exact cw):RO ac c (⟨d,.qQ x,none,[],[]⟩::l) s L H:=RO.op (λaa a=>by simp only[aE,a.gv e rfl,U.n9 i hi,show ae0 b 128=true from agu afs hb,bc]) (h _ (U.qC i hi _))
theorem RO.XV(U:al A H ts)(i:Nat){x:aK}{t r:List Nat}{k b:Nat}(hb:¬b<128)(h:∀H',al A H' (ts.set i (tX q (.jN t (t.drop (k+(u8 t k).2)) (k+(u8 t k).2))))->RO ac c l s (bj L d (.tuple [.bool true,.int 3 (.ofNat k),.int 2 (.ofNat (u8 t k).1)])) H')(hi:ts[i]?=some (tX q (.jN t (b::r) k)):=by rfl)(f:aT L x=.aD q 0:=by exact cw):RO ac c (⟨d,.qQ x,none,[],[]⟩::l) s L H:=RO.op (λaa a=>by simp only[aE,a.gv f rfl,U.n9 i hi,show ae0 b 128=false from Bool.eq_false_iff.2 λe=>hb (Eq.mp afs e),abu,bA]) (h _ (U.qC i hi _))
theorem XW{t:List Nat}{k:Nat}(hb:∀x∈t,x<256)(a:k<t.length)(h:128<=t[k]):128<=(u8 t k).1/\(u8 t k).1<=2147483647:=by
 unfold u8;have hs:k<(ByteArray.mk (t.map agp).toArray).size:=by simpa[ByteArray.size]using a
 refine⟨(decode_high _ _ hs ?_).1,decode_le _ _⟩;have:((ByteArray.mk (t.map agp).toArray)[k]'hs).toNat=t[k]:=by show(((t.map agp).toArray)[k]'(by simpa using a)).toNat=t[k];have:=hb _ (acI a);simp;omega
 rw[this];exact h
theorem RO.XX(U:al A H ts)(h:∀H' q,al A H' (tX q (.map [] 0)::ts)->RO ac c l s (bj L d (.map q)) H'):RO ac c (⟨d,.je,none,[],[]⟩::l) s L H:=RO.je (h _ _ (U.AZ _))
theorem RO.XY(U:al A H ts)(i:Nat){e:cY}{m k w:aK}{kv v:AV}{es:List aV}{ck:Nat}(h:∀H',al A H' (ts.set i (tX q (.map (es++[⟨kv,v,ck⟩]) (ck+1))))->RO ac c l s (bj L d .agx) H')(hi:ts[i]?=some (tX q (.map es ck)):=by rfl)(g:aT L m=.map q:=by exact cw)(j:aT L k=kv:=by exact cw)(n:aT L w=v:=by exact cw)(b:kv.bq=true:=by first|rfl|assumption)(f:v.bq=true:=by first|rfl|assumption)(p:gB e kv=true:=by rfl)(r:findKey e kv es 0=some none:=by rfl):RO ac c (⟨d,.iV e m k w,none,[],[]⟩::l) s L H:=RO.op (λaa a=>by simp only[aE,a.gv g rfl,a.gv j b,a.gv n f,p,aeY,abu,bA,U.n9 i hi,r]) (h _ (U.qC i hi _))
theorem RO.J7(U:al A H ts)(i:Nat){e:cY}{z:AV}{m k:aK}{kv:AV}{es:List aV}{ck:Nat}{r:Option (Nat×AV)}(f:findKey e kv es 0=some r)(h:RO ac c l s (bj L d (.tuple (match r with|some p=>[p.2,.bool true]|none=>[z,.bool false]))) H)(hi:ts[i]?=some (tX q (.map es ck)):=by rfl)(g:aT L m=.map q:=by exact cw)(j:aT L k=kv:=by exact cw)(b:kv.bq=true:=by first|rfl|assumption)(n:gB e kv=true:=by rfl):RO ac c (⟨d,.lookup e z true m k,none,[],[]⟩::l) s L H:=RO.op (λaa a=>by simp only[aE,a.gv g rfl,a.gv j b,n,aeY,abu,bA,U.n9 i hi,f,bc];cases r<;>rfl) h
theorem gh{aa:am AV}{p:af}{x:aK}{i:af}{o:Nat}{v:AV}{re:List fU}(b:Le L aa)(g:aT L x=.aD i o)(h:lk L p=v)(hd:v.bq=true)(hs:fC v v=true)(a:bx H i o=some v)(j:dl aa H re=true):dl aa H (⟨p,.bk x,none⟩::re)=true:=by
 have e:gz H (.aD i o) 1 false=some v:=by
  unfold bx at a;split at a
  .rename_i cc n _ _ _ _ hg;split at a;·rename_i hb;injection a with a;have f:o<n:=afs.mp hb;simp only[gz,du,hg,eX,aH f,a,abu,bA];rfl
   cases a
  cases a
 simp only[dl,dc,bc,aE,b.gv g rfl,e,aeT,b.get h hd,hs,j,agq]
theorem RO.XZ{f:aK}{args:List aK}{fv:AV}{a:List AV}{p:af}{x:aK}{i:af}{o:Nat}{v:AV}(h:YF ac fv a H λr H'=>bx H' i o=some v/\RO ac c l s (bj L d r) H')(m:∀r,aT (bj L d r) x=.aD i o:=by(intro r;conv=>lhs;whnf)<;>rfl)(n:∀r,lk (bj L d r) p=v:=by(intro r;conv=>lhs;whnf)<;>rfl)(b:v.bq=true:=by first|rfl|assumption)(e:fC v v=true:=by first|rfl|assumption|simp[fC,de,eU])(t:aT L f=fv:=by exact cw)(g:fv.bq=true:=by first|rfl|assumption)(u:args.map (aT L)=a:=by rfl)(j:a.all AV.bq=true:=by repeat first|rfl|assumption|(refine ad ?_ ?_)):RO ac c (⟨d,.call f args,none,[],[⟨p,.bk x,none⟩]⟩::l) s L H:=RO.D1 (h.mono λr H' h=>⟨λaa k=>gh k (m r) (n r) b e h.1 rfl,h.2⟩) t g u j
def pt(L:Kn)(H:ai):List fM->List AV->Prop
 |[],[]=>True
 |.tmp p::a,v::b=>lk L p=v/\v.bq=true/\pt L H a b
 |.cell p agg n::a,v::b=>(∃q o,lk L p=.aD q o/\gz H (.aD q o) n agg=some v)/\pt L H a b
 |_,_=>False
theorem pt.tk{aa:am AV}(a:Le L aa):∀{b:List fM}{e:List AV},pt L H b e->ee aa H b=some e|[],[],_=>rfl|.tmp p::b,v::e,h=>by simp only[ee,pt.tk a h.2.2,aeT,a.get h.1 h.2.1]|.cell p agg n::b,v::e,h=>by obtain⟨⟨q,o,h1,h2⟩,h3⟩:=h;simp only[ee,pt.tk a h3,a.get h1 rfl,h2]|[],_::_,h=>h.elim|.tmp _::_,[],h=>h.elim|.cell .. ::_,[],h=>h.elim
theorem RJ.X9{j:bU}{b:List fM}{K:KT}{e:List AV}(hj:j=.none\/j=.ret)(f:pt L H b e)(h:K (fG e) H):RJ ac (rE b K) j [] L H:=λaa a=>by have:=f.tk (H:=H) a;rcases hj with rfl|rfl<;>simp only[iD,l9,gV,this]<;>exact h
theorem Ru.iT{a:List fM}{K:KT}{vs:List AV}{s:List SI}(b:pt L H a vs)(h:K (fG vs) H):Ru ac (rE a K) (.code .ret::s) L H:=Ru.ret (RJ.rD (RJ.X9 (.inr rfl) b h))
theorem al.agg(U:al A H ts)(i:Nat){e n:Nat}{a:List AV}(hi:ts[i]?=some (tB e q a):=by rfl)(b:a.length=n:=by rfl):gz H (.aD q 0) n true=some (.agg a):=by subst b;obtain⟨g,f⟩:=U.get i hi;have:=tB.mL (o:=0) (m:=a.length) f ab;simp only[gz,this,bc,agm,af4]
theorem al.one(U:al A H ts)(i:Nat){e:Nat}{v:AV}(hi:ts[i]?=some (tB e q [v]):=by rfl):gz H (.aD q 0) 1 false=some v:=by obtain⟨b,a⟩:=U.get i hi;have:=tB.mL (o:=0) (m:=1) a aC;simp only[gz,this,abu,bA];rfl
end
section
variable{ac:Nat->aX}{c:Cx}{s:List SI}{L:Kn}{H A:ai}{d:Option af}{l:List bu}{ts:List Th}{q:af}{e n:Nat}
end
section
variable{ac:Nat->aX}
section
def Body(ac:Nat->aX)(A:ai)(y:AV)(m:Nat)(E:Nat->List AV->List Th->Prop)(J:Nat->List Th->Prop)(D:List Th->Prop):Prop:=
 ∀k args b c us H,k<m->E k args b->J k c->al A H (b++c++us)->YF ac y args H λv d=>∃a,al A d (a++us)/\(v=.bool true/\J (k+1) a\/v=.bool false/\D a)
def yG(ac:Nat->aX)(A:ai)(fv:AV)(m:Nat)(E:Nat->List AV->List Th->Prop)(d:List Th)(e Kp:ai->Prop):Prop:=
 ∀y J D b us H(K:KT),y.bq=true->y.db=true->y.cells=[y]->(∀k b us H,J k b->al A H (b++us)->Kp H)->Body ac A y m E J D->J 0 b->al A H (d++b++us)->e H->(∀c a v,al A c (a++us)->(J m a\/D a)->K v c)->YF ac fv [y] H K
def tV:List af->List AV->Kn->Kn
 |p::a,v::b,L=>tV a b ((p,v)::L)
 |_,_,L=>L
theorem Le.pr:∀{a:List af}{b:List AV}{L:Kn}{aa:am AV},Le L aa->Le (tV a b L) (kq a b aa)|[],_,_,_,h=>by cases h2:(‹List AV›)<;>simpa[tV,kq]using h|p::a,[],_,_,h=>by simpa[tV,kq]using h|p::a,v::b,L,aa,h=>by simp only[tV,kq];exact Le.pr (h.set (some p) v)
def wA(A:ai)(l:af)(o2:bO)(us:List Th)(J:List Th->Prop)(Dn:bU->List Th->Prop)(j:bU)(_:Fr)(b:ai):Prop:=
 ∃a,al A b (a++tX l o2::us)/\match j with
  |.none=>J a
  |j=>Dn j a
def Kk(ac:Nat->aX)(l:af)(o1 o2:bO)(body:bg)(K:bU->Fr->ai->Prop)(j:bU)(fr:Fr)(H1:ai):Prop:=
 j=.none/\H1.get l=o1/\∃n,Xc ac n body fr (H1.set l o2) K
abbrev yH(A:ai)(l:af)(o2:bO)(us:List Th)(J:List Th->Prop)(Dn:bU->List Th->Prop):Cx:=⟨wA A l o2 us J Dn,[],some l⟩
abbrev Er(ac:Nat->aX)(l:af)(o1 o2:bO)(body:bg)(K:bU->Fr->ai->Prop):Cx:=⟨Kk ac l o1 o2 body K,[],some l⟩
variable{A H:ai}{l:af}{o1 o2:bO}{us xs:List Th}{J:List Th->Prop}{Dn:bU->List Th->Prop}{L:Kn}{body:bg}
theorem Ru.dN(U:al A H (xs++tX l o1::us))(h:∀b,al A b (xs++tX l o2::us)->Ru ac (yH A l o2 us J Dn) [.code body] L b):Ru ac (Er ac l o1 o2 body (wA A l o2 us J Dn)) [] L H:=λaa a=>by have hi:(xs++tX l o1::us)[xs.length]?=some (tX l o1):=aC;have h2:=U.qC xs.length hi o2;have e:(xs++tX l o1::us).set xs.length (tX l o2)=xs++tX l o2::us:=aC;rw[e]at h2;obtain⟨n,c⟩:=h _ h2 aa a;exact⟨rfl,U.n9 xs.length hi,n,c.mono (aeq _) λ_ _ _ h=>h⟩
theorem Ru.bB{ts:List Th}(U:al A H (ts++tX l o2::us))(a:J ts):Ru ac (yH A l o2 us J Dn) [] L H:=λ_ _=>⟨ts,U,a⟩
theorem RJ.bB{ts:List Th}{j:bU}(U:al A H (ts++tX l o2::us))(hj:j≠.none)(a:Dn j ts):RJ ac (yH A l o2 us J Dn) j [] L H:=λ_ _=>⟨ts,U,by cases j<;>first|exact absurd rfl hj|exact a⟩
theorem Ru.A7{ts:List Th}{s:List SI}(U:al A H (ts++tX l o2::us))(a:Dn .ret ts):Ru ac (yH A l o2 us J Dn) (.code .ret::s) L H:=Ru.ret (RJ.rD (RJ.bB U aC a))
theorem YM{a b:Th}{d c us:List Th}:(a::b::(d++c++us)).Perm (d++(a::c)++(b::us)):=by have h1:(d++(a::c)++(b::us)).Perm (b::(d++(a::c)++us)):=afd;have h2:(d++(a::c)++us).Perm (a::(d++c++us)):=(afd (l₁:=d)).append_right us;exact((h1.trans (h2.cons b)).trans (afA a b _)).symm
theorem YO{a:Th}{b c us:List Th}:(b++(a::c)++us).Perm (b++c++a::us):=by have h1:(b++c++a::us).Perm (a::(b++c++us)):=afd;have h2:(b++(a::c)++us).Perm (a::(b++c++us)):=(afd (l₁:=b)).append_right us;exact h2.trans h1.symm
theorem YP{aa:am AV}{b:List af}{dN body:bg}{c:af}{args:List AV}{Q:KT}(e:H.get l=.loop .ready .none 0 aa b dN body c)(f:args.length=b.length)(g:iD ac (Kk ac l (.loop .ready .none 0 aa b dN body c) (.loop .busy .none 0 aa b dN body c) body (wA A l (.loop .busy .none 0 aa b dN body c) us J Dn)) [.code dN] .none ⟨kq b args aa,[],some l⟩ H)(t:∀d a,al A d (a++tX l (.loop .busy .none 0 aa b dN body c)::us)->J a->Q (.bool true) (d.set l (.loop .ready .none 0 aa b dN body c)))(hd:∀j d a,j≠.none->al A d (a++tX l (.loop .busy .none 0 aa b dN body c)::us)->Dn j a->Q (.bool false) (d.set l (.loop .done j 0 aa b dN body c))):YF ac (.yield l) args H Q:=by obtain⟨n,r⟩:=g;obtain⟨m,u⟩:=(vP ac n).exec (K:=λm j fr p=>j=.none/\p.get l=.loop .ready .none 0 aa b dN body c/\Xc ac m body fr (p.set l (.loop .busy .none 0 aa b dN body c)) (wA A l (.loop .busy .none 0 aa b dN body c) us J Dn)) (λm w j fr H s h=>⟨h.1,h.2.1,h.2.2.mono s λ_ _ _ h=>h⟩) ((mono ac n).exec (aeq _) (λj fr H h=>by obtain⟨h1,h2,k,h3⟩:=h;exact⟨k,h1,h2,h3⟩) r);refine⟨max n m+1,?_⟩;simp only[Xf,dT,e,aH f];refine(show Xc ac n dN _ H _ from u).mono (Nat.le_max_left ..) λj fr p h=>?_;obtain⟨rfl,h2,h3⟩:=h;simp only[h2];refine h3.mono (Nat.le_max_right ..) λj _ d h=>?_;obtain⟨a,o,q⟩:=h;have v:d.get l=.loop .busy .none 0 aa b dN body c:=o.n9 a.length aC;simp only[v];cases j with|none=>exact t d a o q|exit i=>exact hd _ d a aC o q|ret=>exact hd _ d a aC o q
theorem Ru.qF{K:bU->Fr->ai->Prop}{M:List af}{s:List SI}{f:aK}{b:List af}{dN body:bg}{fv:AV}{m:Nat}{E:Nat->List AV->List Th->Prop}{S q:List Th}{T Kp:ai->Prop}{J:Nat->List Th->Prop}{Dn:bU->List Th->Prop}(U:al A H (S++q++us))(W:yG ac A fv m E S T Kp)(X:∀G,aZ H G->T G)(Y:J 0 q)(Z:∀k args p,E k args p->args.length=b.length)(I:∀k c us H,J k c->al A H (c++us)->Kp H)(hB:∀k args p c us l o1 o2 H,k<m->E k args p->J k c->al A H (p++c++tX l o1::us)->Ru ac (Er ac l o1 o2 body (wA A l o2 us (J (k+1)) Dn)) [.code dN] (tV b args L) H)(B:∀g a w,J m a->al A g (a++tX w (.deferred false)::us)->Ru ac ⟨K,w::M,none⟩ s L g)(C:∀j g a w,j≠.none->Dn j a->al A g (a++tX w (.deferred false)::us)->RJ ac ⟨K,w::M,none⟩ j s L g)(hf:aT L f=fv:=by exact cw)(N:fv.bq=true:=by first|rfl|assumption):Ru ac ⟨K,M,none⟩ (.code (.rangeFunc f b dN body)::s) L H:=by
 intro aa o;have O:=U.AZ (.deferred false);have r:=O.AZ (.loop .ready .none 0 aa b dN body H.next);have t:=r.cH YM;have x:aZ H ((H.new (.deferred false)).new (.loop .ready .none 0 aa b dN body H.next)):=(aZ.new H _).trans (aZ.new _ _);generalize hl:(H.new (.deferred false)).next=l at r t;generalize P:((H.new (.deferred false)).new (.loop .ready .none 0 aa b dN body H.next))=G at r t x;have key:=W (.yield l) (λk a=>∃c,a=tX l (.loop .ready .none 0 aa b dN body H.next)::c/\J k c) (λa=>∃c j,j≠.none/\a=tX l (.loop .done j 0 aa b dN body H.next)::c/\Dn j c) _ _ G (λ_ g=>match g.get l with
  |.loop st bP fn D b aw bd d=>match st with|.busy=>False|_=>iD ac K s bP ⟨aa,H.next::M,none⟩ (g.set l (.loop .exhausted bP fn D b aw bd d))
  |_=>False) rfl rfl rfl (by rintro k _ h g⟨c,rfl,u⟩Q;exact I k c _ g u Q.AC) ?_ ⟨q,rfl,Y⟩ t (X _ x) ?_;·obtain⟨n,hn⟩:=key;refine⟨n+1,?_⟩;simp only[Xc,exec];rw[hl,P,o.gv hf N];exact hn
 .rintro k args p _ h V hk y⟨c,rfl,u⟩i;have z:=i.cH YO;have e:V.get l=.loop .ready .none 0 aa b dN body H.next:=z.n9 (p++c).length aC;have F:=hB k args p c h l _ (.loop .busy .none 0 aa b dN body H.next) V hk y u z (kq b args aa) o.pr;refine YP e (Z _ _ _ y) F (λg a h1 h2=>⟨tX l _::a,?_,.inl ⟨rfl,a,rfl,h2⟩⟩) (λj g a hj h1 h2=>⟨tX l _::a,?_,.inr ⟨rfl,a,j,hj,rfl,h2⟩⟩);·have:=h1.qC (q:=l) (o:=.loop .busy .none 0 aa b dN body H.next) a.length aC (.loop .ready .none 0 aa b dN body H.next);rw[show(a++tX l (.loop .busy .none 0 aa b dN body H.next)::h).set a.length (tX l (.loop .ready .none 0 aa b dN body H.next))=a++tX l (.loop .ready .none 0 aa b dN body H.next)::h by simp]at this;exact this.rH
  have:=h1.qC (q:=l) (o:=.loop .busy .none 0 aa b dN body H.next) a.length aC (.loop .done j 0 aa b dN body H.next);rw[show(a++tX l (.loop .busy .none 0 aa b dN body H.next)::h).set a.length (tX l (.loop .done j 0 aa b dN body H.next))=a++tX l (.loop .done j 0 aa b dN body H.next)::h by simp]at this;exact this.rH
 rintro g _ v i(⟨c,rfl,R⟩|⟨c,j,hj,rfl,hD⟩);·have e:=i.n9 0 rfl;simp only[e];exact B _ c _ R (i.qC 0 rfl _).tail aa o
 have e:=i.n9 0 rfl;simp only[e];exact C j _ c _ hj hD (i.qC 0 rfl _).tail aa o
end
section
def tR(size:Nat)(vs:List AV)(n:Nat)(v:AV):Th where
 P H b:=Sl H size vs n v/\(∀i o m c e,v=.slice i o m c e->i∈b)/\∀j∈b,j.az<H.next.az
 fr:=by
  rintro H H' b⟨h1,h2,h3⟩g hg
  refine⟨?_,h2,λj hj=>ae2 (h3 j hj) g⟩
  rcases h1 with h|⟨i,o,cap,ex,c,m,e,f,aM,fz,k,p,a⟩
  .exact .inl h
  .exact .inr ⟨i,o,cap,ex,c,m,e,f,aM,fz,k,by rw[hg i (h2 _ _ _ _ _ k)];exact p,a.1,a.2.1,a.2.2.1,ae2 a.2.2.2.1 g,a.2.2.2.2⟩
 lt h:=h.2.2
def tZ(F:List Th):Th where
 P H a:=(∀t∈F,∃f,(∀j∈f,j∈a)/\t.P H f)/\∀j∈a,j.az<H.next.az
 fr:=by
  rintro H H' a⟨h1,h2⟩b hg
  refine⟨λt i=>?_,λj hj=>ae2 (h2 j hj) b⟩
  obtain⟨f,g,k⟩:=h1 t i
  exact⟨f,g,t.fr k b λj hj=>hg j (g j hj)⟩
 lt h:=h.2
variable{A H H':ai}{ts us:List Th}{F:List Th}{t t':Th}{i j e size n o m:Nat}{vs ws:List AV}{v w:AV}{full:Bool}{q r:af}
theorem al.px(U:al A H ts):al A H (tZ []::ts):=by have h0:(tZ []).P H []:=⟨λt h=>absurd h aC,λj h=>absurd h aC⟩;exact U.push (aZ.refl H) h0 λj h=>absurd h aC
theorem al.kF(U:al A H (t::tZ F::ts)):al A H (tZ (t::F)::ts):=by
 obtain⟨k,a,p⟩:=U;match a,p with
  |b::x::a,⟨h1,h2,h3,g,y,z,B⟩=>
   refine⟨k,(b++x)::a,⟨λu hu=>?_,λj hj=>?_⟩,λj hj=>?_,λj hj f i=>?_,B⟩
   .rcases aer.1 hu with rfl|hu;·exact⟨b,λj hj=>aeN _ hj,h1⟩
    obtain⟨f,C,D⟩:=g.1 u hu;exact⟨f,λj hj=>aeU _ (C j hj),D⟩
   .rcases aeu.1 hj with h|h;·exact t.lt h1 j h
    exact g.2 j h
   .rcases aeu.1 hj with h|h;·exact h2 j h
    exact y j h
   rcases aeu.1 hj with h|h;·exact h3 j h f (aen _ i)
   exact z j h f i
theorem al.mi(U:al A H ts)(i:Nat)(hi:ts[i]?=some (tZ F))(a:t∈F):∃f,t.P H f:=by obtain⟨g,b⟩:=U.get i hi;obtain⟨f,_,h⟩:=b.1 t a;exact⟨f,h⟩
theorem al.YQ(U:al A H (tZ F::ts))(b:t∈F)(h:∀f,t.P H f->t'.P H f):al A H (tZ (t'::F)::ts):=by
 refine U.as 0 rfl λj a=>⟨λu hu=>?_,a.2⟩;rcases aer.1 hu with rfl|hu;·obtain⟨f,g,i⟩:=a.1 t b;exact⟨f,g,h f i⟩
 exact a.1 u hu
theorem tS.lh{a:List af}(h:(tS e size vs n full v).P H a):(tR size vs n v).P H a:=by
 refine⟨cI.sl h,λi o m c ex b=>?_,cI.below h⟩;rcases h with⟨_,_,_,h⟩|⟨g,j,aM,cap,f,rfl,h2,_⟩;·rw[b]at h;cases h
 rw[b]at h2;injection h2 with h2;subst h2;exact acm ..
theorem Fs.jT:∀{fs:List (List af)}{ts:List Th}{i j:Nat},Fs A H fs ts->ts[i]?=some t->ts[j]?=some t'->i<j->∃f g,t.P H f/\t'.P H g/\∀p∈f,p∉g|[],[],i,_,_,h,_,_=>by simp at h|[],_::_,_,_,h,_,_,_=>h.elim|_::_,[],_,_,h,_,_,_=>h.elim|b::fs,t0::ts,0,j+1,⟨h1,_,h3,a⟩,hi,hj,_=>by simp only[afZ,aas]at hi;subst hi;simp only[afh]at hj;obtain⟨g,e,h⟩:=Fs.at a hj;exact⟨b,g,h1,h,λp k=>h3 p k g (List.mem_of_getElem? e)⟩|b::fs,t0::ts,i+1,j+1,⟨_,_,_,a⟩,hi,hj,u=>by simp only[afh]at hi hj;exact Fs.jT a hi hj ab|_::_,_::_,_,0,_,_,_,h=>by omega
variable{c:Cx}{s:List SI}{L:Kn}{d:Option af}{l:List bu}
theorem RO.YR(U:al A H ts)(i j:Nat){x:aK}{p:af}{E cap:Nat}{ex:Bool}(h:∀H',al A H' ts->RO ac c l s (bj L d v) H')(J:aT L x=.aD q o:=by exact cw)(G:lk L p=.slice r 0 E cap ex:=by exact cw)(hi:ts[i]?=some (tB e q vs):=by rfl)(hj:ts[j]?=some (tS m size ws n full (.slice r 0 E cap ex)):=by rfl)(y:i≠j:=by decide)(K:vs[o]?=some v:=by rfl):RO ac c (⟨d,.bk x,none,[p],[]⟩::l) s L H:=by
 have z:q≠r:=by
  obtain⟨_,O,I⟩:=U;rcases Nat.lt_or_gt_of_ne y with a|a
  .obtain⟨f,g,h1,h2,h3⟩:=I.jT hi hj a;rintro rfl;refine h3 q h1.1 ?_;rcases h2 with⟨_,_,_,h⟩|⟨M,N,aM,cap,B,rfl,h2,_⟩;·cases h
   injection h2 with h2;subst h2;exact acm ..
  obtain⟨f,g,h1,h2,h3⟩:=I.jT hj hi a;rintro rfl;refine h3 q ?_ h2.1;rcases h1 with⟨_,_,_,h⟩|⟨M,N,aM,cap,B,rfl,h2,_⟩;·cases h
  injection h2 with h2;subst h2;exact acm ..
 obtain⟨P,C⟩:=U.get i hi;have u:=tB.cell C K;have D:al A ((H.set r .none).set r (H.get r)) ts:=U.bL rfl λk=>by
  rw[ai.aJ];split;·rename_i e;rw[e]
  rename_i e;rw[ai.aJ,ap e]
 refine RO.AB (λ_ _ h=>by cases h) (λ_ h=>by cases h) (λaa b=>⟨H.set r .none,?_,?_⟩) (λ_ _=>rfl) (h _ D)
 .simp only[cS,b.get G rfl,fj,aE,b.gv J rfl];have:bx (H.set r .none) q o=some v:=by simp only[bx,ai.aJ,ap z];exact u
  unfold bx at this;split at this
  .rename_i cc n _ _ _ _ hg;split at this;·rename_i hb;injection this with this;have a:o<n:=afs.mp hb;simp only[gz,du,hg,eX,aH a,this,abu,bA];rfl
   cases this
  cases this
 simp only[cS,b.get G rfl,fj,cB]
def eN(M:List af):List Th:=M.map λm=>tX m (.deferred false)
theorem Kl:∀{M:List af}{H:ai},al A H (eN M++ts)->∃H',gV H M=some H'/\al A H' ts|[],H,U=>⟨H,rfl,U⟩|m::M,H,U=>by have hg:H.get m=.deferred false:=U.n9 0 rfl;obtain⟨H',h1,h2⟩:=Kl (U.qC 0 rfl (.deferred true)).tail;exact⟨H',by simp only[gV,hg];exact h1,h2⟩
theorem RJ.ke{K:KT}{f:List fM}{M:List af}{a:bU}(hj:a=.none\/a=.ret)(U:al A H (eN M++ts))(h:∀H',al A H' ts->∃vs,pt L H' f vs/\K (fG vs) H'):RJ ac ⟨l9 f K,M,none⟩ a [] L H:=λaa b=>by obtain⟨H',h1,h2⟩:=Kl U;obtain⟨vs,h3,g⟩:=h H' h2;have:=h3.tk b;rcases hj with rfl|rfl<;>simp only[iD,l9,h1,this]<;>exact g
theorem Ru.ke{K:KT}{a:List fM}{M:List af}{s:List SI}(U:al A H (eN M++ts))(h:∀H',al A H' ts->∃vs,pt L H' a vs/\K (fG vs) H'):Ru ac ⟨l9 a K,M,none⟩ (.code .ret::s) L H:=Ru.ret (RJ.rD (RJ.ke (.inr rfl) U h))
end
end
section
variable{ac:Nat->aX}{c:Cx}{s:List SI}{L:Kn}{A B H H':ai}{d:Option af}{l:List bu}{ts us:List Th}{q r:af}{e size n m o k i j bytes:Nat}{vs ws:List AV}{v w sv:AV}{full:Bool}
theorem Kt{c:am AV}{n:Nat}:∀{m o:Nat}{l:List AV},eX c n o m=some l->l.length=m/\o+m<=max n o/\∀j(h:j<l.length),c.bN .agx (o+j)=l[j]
 |0,o,l,h=>by simp only[eX,aas]at h;subst h;exact⟨rfl,ab,λj h=>by simp at h⟩
 |m+1,o,l,h=>by
  simp only[eX]at h;split at h
  .rename_i a;split at h;·rename_i b hl;injection h with h;subst h;obtain⟨h1,h2,h3⟩:=Kt hl;refine⟨by simp[h1],ab,λj hj=>?_⟩;cases j with|zero=>rfl|succ j=>rw[show o+(j+1)=o+1+j by omega,h3 j (by simpa using hj)];rfl
   cases h
  cases h
theorem Eu{cs:List AV}(h:du H q o n=some cs)(g:k+m<=n):du H q (o+k) m=some ((cs.drop k).take m):=by
 unfold du at h⊢;split at h
 .rename_i a b _ _ _ _ hg;obtain⟨h1,h2,h3⟩:=Kt h;by_cases h0:m=0;·subst h0;simp[eX]
  have:=tm (c:=a) (n:=b) (l:=(cs.drop k).take m) (o:=o+k) (by simp;omega) (λx f=>by simp only[aeP,afF]at f;rw[afU,h3 (k+x) ab];simp);simp only[aeP,afF]at this;rw[af7 ab]at this;exact this
 cases h
theorem Sl.bL(h:Sl H size vs n sv):fC sv sv=true:=by
 rcases h with⟨rfl,_⟩|⟨_,_,_,_,_,_,_,_,_,_,rfl,_⟩;·rfl
 simp[fC,de,af.fo]
theorem tY{xs ts us:List Th}:(xs++ts++us).Perm (ts++(xs++us)):=by rw[<-aeC];exact ae4.append_right us
theorem cK.bL{a:Type}{R:ai->a->List AV->Prop}{b:List a}(h:cK size R H b sv):fC sv sv=true:=by obtain⟨vs,h,_⟩:=h;exact h.bL
theorem RO.yJ(U:al A H ts)(i:Nat){a x:aK}{re:List fU}(h:∀H',al A H' (ts.set i (tB e q (sp vs o ws)))->(∀aa,Le (bj L d .agx) aa->dl aa H' re=true)/\RO ac c l s (bj L d .agx) H')(f:aT L a=.aD q o:=by exact cw)(g:aT L x=.agg ws:=by exact cw)(hi:ts[i]?=some (tB e q vs):=by rfl)(j:o+ws.length<=vs.length:=by first|decide|exact aeG rfl|simp|omega)(p:ws.length=n:=by first|rfl|simp)(t:cE ws=true:=by repeat first|rfl|assumption|(refine ao ?_ ?_)):RO ac c (⟨d,.store n a x,none,[],re⟩::l) s L H:=by obtain⟨D,u,_,hu⟩:=U.iu i hi;obtain⟨H',C,h1,h2,h3⟩:=tB.qn (ws:=ws) u j t;obtain⟨y,z⟩:=h H' (hu h2 h3);refine RO.AB (λ_ _ h=>by cases h) (λ_ h=>by cases h) (λaa b=>⟨H',?_,rfl⟩) y z;simp only[cS,aE,b.gv f rfl,b.gv g rfl,AV.cells,p,bc,h1]
theorem RO.YT{f:aK}{args:List aK}{fv:AV}{i:List AV}{p:af}{re:List fU}{J cap off:Nat}{ex:Bool}(b:∀t,(∀j,j≠r->t.get j=H.get j)->t.next=H.next->YF ac fv i t λu H'=>u=v/\H'=t)(h:∀y,(∀j,y.get j=H.get j)->y.next=H.next->(∀aa,Le (bj L d v) aa->dl aa y re=true)/\RO ac c l s (bj L d v) y)(K:lk L p=.slice r off J cap ex:=by exact cw)(M:aT L f=fv:=by exact cw)(z:fv.bq=true:=by first|rfl|assumption)(N:args.map (aT L)=i:=by rfl)(C:i.all AV.bq=true:=by repeat first|rfl|assumption|(refine ad ?_ ?_)):RO ac c (⟨d,.call f args,none,[p],re⟩::l) s L H:=λaa a=>by
 have D:args.map (gv aa)=i:=by subst N;refine afK λx O=>?_;exact a.gv rfl (afv.1 C _ (aeX O))
 obtain⟨G,E⟩:=b (H.set r .none) (λj hj=>by rw[ai.aJ,ap hj]) rfl;have g:∀j,((H.set r .none).set r (H.get r)).get j=H.get j:=λj=>by
  rw[ai.aJ];split;·rename_i e;rw[e]
  rename_i e;rw[ai.aJ,ap e]
 obtain⟨P,Q⟩:=h _ g rfl;obtain⟨I,F⟩:=Q _ (a.set d v);refine⟨max G I+1,?_⟩;simp only[Xo,Go.ak.aq,dc,cS,a.get K rfl,fj,bc];rw[a.gv M z,D];refine(show Xf ac G fv i _ _ from E).mono (Nat.le_max_left ..) λu H' R=>?_;obtain⟨rfl,rfl⟩:=R;have S:dl (aO aa d u) (cB (H.set r .none) [(r,H.get r)]) re=true:=P _ (a.set d u);rw[aH S];exact(show Xo ac I l _ _ _ from F).mono (Nat.le_max_right ..) λ_ _ h=>h
theorem RO.YU(U:al A H ts){x y:aK}{C:AV}{D:List AV}{re:List fU}(hs:(sv=.aG/\vs=[]/\n=0)\/∃i o,sv=.slice i o n n true/\Sl H size vs n sv)(b:Sl H size ws 1 C)(h:∀H' v,aZ H H'->al A H' (tS e size (vs++ws) (n+1) true v::ts)->(∀aa,Le (bj L d v) aa->dl aa H' re=true)/\RO ac c l s (bj L d v) H')(h1:cE ws=true:=by repeat first|rfl|assumption|(refine ao ?_ ?_))(E:aT L x=sv:=by exact cw)(F:aT L y=C:=by exact cw)(hb:(n+1)*bytes<=70368744177664:=by omega)(G:n+1<=70368744177664:=by omega):RO ac c (⟨d,.append e bytes size D false x y,none,[],re⟩::l) s L H:=by
 have f:(dG ((n+1)*bytes)&&dG (n+1))=true:=by rw[rG hb,rG G];rfl
 have hd:sv.bq=true:=by rcases hs with⟨rfl,_⟩|⟨_,_,rfl,_⟩<;>rfl
 have key:∃v H',iK e bytes size H sv 1 ws=some (v,H')/\aZ H H'/\al A H' (tS e size (vs++ws) (n+1) true v::ts):=by
  rcases hs with⟨rfl,rfl,rfl⟩|⟨i,o,rfl,hs⟩;·refine⟨.slice H.next 0 1 1 false,H.new (.cells (bX ws) (1*size) e true [] 0),?_,aZ.new H _,U.push (aZ.new H _) (cI.new (by simpa using b.length) false true) (rI H)⟩;rw[aeL]at f;simp only[iK,h1,aeY,abu,bA,show aeF 1 0=false from rfl,f,bc]
  have a:=hs.fB;have j:=hs.length;refine⟨.slice H.next 0 (n+1) (n+1) false,H.new (.cells (bX (vs++ws)) ((n+1)*size) e true [] 0),?_,aZ.new H _,U.push (aZ.new H _) (cI.new (by rw[aex,j,b.length,agh]) false true) (rI H)⟩;have t:afx (n+1) n=false:=by cases u:afx (n+1) n with|false=>rfl|true=>have:=aeG u;omega
  simp only[fB,du]at a;cases hg:H.get i with
  |cells I J P O aM fz=>rw[hg]at a;simp only at a;cases p:eX I J o (n*size)with|none=>rw[p]at a;cases a|some Q=>rw[p]at a;simp only[aas,acn,true_and]at a;subst a;simp only[iK,h1,aeY,abu,bA,t,f,hg,p,bc]
  |_=>rw[hg]at a;cases a
 obtain⟨v,H',h2,h3,K⟩:=key;obtain⟨M,N⟩:=h H' v h3 K;have z:=b.bq;refine RO.AB (λ_ _ h=>by cases h) (λ_ h=>by cases h) (λaa g=>⟨H',?_,rfl⟩) M N;simp only[cS,aE,g.gv E hd,g.gv F z,b.fB,abu,bA,h2]
def mS(v:AV)(b:Nat):AV:=match v with|.slice i o _ cap ex=>.slice i o b cap ex|v=>v
theorem A8{b:Nat}(hs:Sl H size vs n sv)(hb:b<=n):Sl H size (vs.take (b*size)) b (mS sv b):=by
 rcases hs with⟨rfl,rfl,rfl⟩|⟨i,o,cap,ex,g,m,h,a,aM,fz,rfl,hg,t,hl,p,hi,f⟩;·have:b=0:=ab;subst this;exact .inl ⟨rfl,rfl,aC⟩
 have bH:b*size<=n*size:=aeV _ hb;refine .inr ⟨i,o,cap,ex,g,m,h,a,aM,fz,rfl,hg,ab,?_,λj hj=>?_,hi,ab⟩;·rw[aeP];omega
 rw[aeP]at hj;rw[p j ab];simp
theorem RO.mS{x y:aK}{b:Nat}(hs:Sl B size vs n sv)(h:RO ac c l s (bj L d (Go.ak.mS sv b)) H)(a:aT L x=sv:=by exact cw)(f:aT L y=.int k (.ofNat b):=by exact cw)(hb:b<=n:=by omega):RO ac c (⟨d,.gp e size x none (some y) none,none,[],[]⟩::l) s L H:=by
 rcases hs with⟨rfl,rfl,rfl⟩|⟨i,o,cap,ex,t,m,u,p,aM,fz,rfl,hg,z,hl,C,hi,g⟩;·have:b=0:=ab;subst this;refine RO.Az (m:=0) (b:=0) (a:=0) a rfl ?_ rfl h;simp only[jm,f];exact mK (aeq _)
 refine RO.gp (m:=cap) (b:=b) (a:=0) a rfl ?_ rfl aC ?_;·simp only[jm,f];exact mK ab
 have j:(if ex&&decide (cap=0)then o else o+0*size)=o:=by split<;>omega
 rw[j,ago,ago,Option.isSome_none,Bool.or_false];exact h
theorem RO.YV{g:Type}{R:ai->g->List AV->Prop}{a:List g}(hg:aZ B H){x y:aK}{j kd:Nat}(hs:cK size R B a sv)(h:∀q o cs(hj:j<a.length),R B a[j] cs->cs.length=size->(∀t v,cs[t]?=some v->∀{H'},aZ B H'->bx H' q (o+t)=some v)->RO ac c l s (bj L d (.aD q o)) H)(p:aT L x=sv:=by exact cw)(u:aT L y=.int kd (.ofNat j):=by exact cw)(hj:j<a.length:=by first|assumption|omega):RO ac c (⟨d,.dO size x y,none,[],[]⟩::l) s L H:=by
 obtain⟨q,o,cap,ex,cs,rfl,h1,h2,h3,C⟩:=hs.at hj;have b:q.az<B.next.az:=by
  obtain⟨vs,z,_⟩:=hs;rcases z with⟨h,_⟩|⟨i,_,_,_,_,_,_,_,_,_,h,_,_,_,_,hi,_⟩;·cases h
  injection h with h;subst h;exact hi
 exact RO.dO (h q (o+j*size) cs hj h1 h2 λt v e H' f=>by rw[f.bx b];exact h3 t v e) p u hj
end
section
variable{ac:Nat->aX}{c:Cx}{s:List SI}{L:Kn}{A B H H':ai}{d:Option af}{l:List bu}{ts us:List Th}{q r:af}{e n m o k i bytes:Nat}{vs:List AV}{v w sv:AV}
def tU(e:Nat)(vs:List AV)(sv:AV):Th where
 P H b:=∃i off ex c m aM,b=i::aM/\sv=.slice i off vs.length vs.length ex/\H.get i=.cells c m e true aM 0/\(ex=true\/m=off+vs.length)/\off+vs.length<=m/\(∀j(h:j<vs.length),c.bN .agx (off+j)=vs[j])/\∀p∈b,p.az<H.next.az
 fr h t hg:=by
  obtain⟨i,off,ex,c,m,aM,rfl,h1,h2,h3,f,g,a⟩:=h
  exact⟨i,off,ex,c,m,aM,rfl,h1,by rw[hg i (acm ..)];exact h2,h3,f,g,λp u=>ae2 (a p u) t⟩
 lt h:=by
  obtain⟨i,off,ex,c,m,aM,rfl,h1,h2,h3,f,g,a⟩:=h
  exact a
theorem tU.sl{a:List af}(h:(tU e vs sv).P H a):Sl H 1 vs vs.length sv:=by obtain⟨i,off,ex,c,m,aM,rfl,h1,h2,h3,g,b,f⟩:=h;exact .inr ⟨i,off,_,ex,c,m,e,true,aM,0,h1,h2,ab,(af0 _).symm,b,f i (acm ..),aeq _⟩
theorem al.Kv(U:al A H ts)(i:Nat)(hi:ts[i]?=some (tU e vs sv):=by rfl):Sl H 1 vs vs.length sv:=by obtain⟨b,a⟩:=U.get i hi;exact tU.sl a
theorem al.YY(U:al A H ts)(i:Nat)(hi:ts[i]?=some (tS e 1 vs vs.length true (.slice q 0 vs.length vs.length true))):al A H (ts.set i (tU e vs (.slice q 0 vs.length vs.length true))):=by
 refine U.as i hi λy a=>?_;rcases a with⟨_,_,_,h⟩|⟨z,g,aM,cap,u,rfl,h2,hg,f,x,p,a,b⟩;·cases h
 injection h2 with h2 _ _ h3 t;subst h2;subst h3;subst t;exact⟨q,0,true,g,_,aM,rfl,rfl,hg,.inl rfl,ab,λj hj=>by rw[aeL];exact p j hj,a⟩
theorem RO.YZ(U:al A H ts)(i:Nat){x:aK}(h:∀a,al A H (ts.set i (tU e vs a))->a.bq=true->a.db=true->a.cells=[a]->RO ac c l s (bj L d a) H)(hi:ts[i]?=some (tU e (v::vs) sv):=by rfl)(f:aT L x=sv:=by exact cw):RO ac c (⟨d,.gp e 1 x (some (.c (.int 3 (.ofNat 1)))) none none,none,[],[]⟩::l) s L H:=by
 obtain⟨E,g,_,hu⟩:=U.iu i hi;obtain⟨j,off,ex,p,m,aM,rfl,h1,h2,h3,u,y,z⟩:=g;subst h1;have b:oN H j e=true:=by simp only[oN,h2,afM]
 refine RO.I4 (m:=vs.length+1) (b:=vs.length+1) (a:=1) f rfl rfl (by simp only[jm,aT];exact mK ab) (by rw[b];simp) (v:=.slice j (if ex&&decide (vs.length+1=1)then off else off+1*1) vs.length vs.length ex) aC ?_;refine h _ (hu (t':=tU e vs _) (kB.refl _ H) ⟨j,_,ex,p,m,aM,rfl,rfl,h2,?_,?_,λt C=>?_,z⟩) rfl rfl rfl
 .rcases h3 with h3|h3;·exact .inl h3
  simp only[aeJ]at h3;cases ex with|true=>exact .inl rfl|false=>right;simp only[Bool.false_and,abu,bA];omega
 .simp only[aeJ]at u;split<;>omega
 split;·rename_i D;simp only[aew,decide_eq_true_eq]at D;omega
 have:=y (t+1) (by simpa using C);rw[show off+1*1+t=off+(t+1)by omega,this];rfl
theorem RO.Y0(U:al A H ts)(i:Nat){p:af}{x:aK}{K:List (Nat×Nat×aK)}{M G:List AV}(w:AV)(h:∀u H' b,al A H' (ts.set i (tU e (vs++[w]) b))->b.bq=true->b.db=true->b.cells=[b]->RO ac c l s (bj ((p,u)::L) d b) H')(hi:ts[i]?=some (tU e vs sv):=by rfl)(hl:mc L (ep M 1) K=some [w]:=by exact cw)(h1:w.db=true:=by first|rfl|assumption)(N:∀u,aT ((p,u)::L) x=sv:=by(intro u;conv=>lhs;whnf)<;>rfl)(hb:(vs.length+1)*bytes<=70368744177664:=by omega)(hn:vs.length+1<=70368744177664:=by omega):RO ac c (⟨some p,.buildSlice e 1 M K,none,[],[]⟩::⟨d,.append e bytes 1 G false x (.t p),none,[],[]⟩::l) s L H:=by
 have y:cE [w]=true:=by simp[cE,h1]
 refine RO.buildSlice ?_ hl y;have hg:aZ H (H.new (.cells (bX [w]) [w].length e true [] 0)):=aZ.new H _;have I:=U.bZ hg;have hs:Sl (H.new (.cells (bX [w]) [w].length e true [] 0)) 1 [w] 1 (.slice H.next 0 1 1 true):=(cI.new (H:=H) (e:=e) (size:=1) (n:=1) (vs:=[w]) rfl true true).sl;generalize W:H.new (.cells (bX [w]) [w].length e true [] 0)=f at*;obtain⟨Z,a,_,hu⟩:=I.iu i hi;obtain⟨j,off,ex,F,m,aM,rfl,Q,O,R,S,T,P⟩:=a;subst Q;have C:(!(dG ((vs.length+1)*bytes)&&dG (vs.length+1)))=false:=by rw[rG hb,rG hn];rfl
 have D:afx (vs.length+1) vs.length=false:=by cases J:afx (vs.length+1) vs.length with|false=>rfl|true=>have:=aeG J;omega
 have hrd:eX F m off (vs.length*1)=some vs:=by have:=tm (c:=F) (n:=m) (l:=vs) (o:=off) S T;rw[af0];exact this
 have g:∀j(hj:j<(vs++[w]).length),(bX (vs++[w])).bN .agx (0+j)=(vs++[w])[j]:=λj hj=>by rw[aeL];exact vR hj
 have X:j.az<f.next.az:=P j (acm ..);cases E:ex with
 |true=>subst E;refine RO.append (r:=(.slice f.next 0 (vs.length+1) (vs.length+1) false,f.new (.cells (bX (vs++[w])) ((vs.length+1)*1) e true [] 0))) hs.fB (by simp only[iK,y,aeY,abu,bA,D,C,O,hrd,bc]) (h _ _ _ (hu (fp':=[f.next]) (t':=tU e (vs++[w]) _) ⟨(aZ.new f _).nx,λp a=>.inr (by rw[aaN]at a;subst a;exact aeq _),λp _ a=>(aZ.new f _).cM p a⟩ ⟨f.next,0,false,_,_,[],rfl,aC,by rw[ai.cZ,aH rfl],.inr aC,aC,g,λp a=>by rw[aaN]at a;subst a;rw[ai.lD];omega⟩) rfl rfl rfl) (N _) rfl (by show lk (bj L (some p) _) p=_;simp only[bj,lk,af.fo.2 rfl]) rfl
 |false=>
  subst E;have V:m=off+vs.length:=by rcases R with h|h;cases h;exact h
  have z:(true&&aeF vs.length vs.length&&aeF (off+vs.length*1) m&&aeF e e&&afx 0 m)=true:=by rw[V,af0];simp[afM]
  refine RO.append (r:=(.slice f.next 0 (vs.length+1) (vs.length+1) false,(f.set j (.cells F m e false aM 0)).new (.cells (bX (vs++[w])) ((vs.length+1)*1) e true (j::aM) (0 - off)))) hs.fB (by simp only[iK,y,aeY,abu,bA,D,C,O,hrd,z,bc]) (h _ _ _ (hu (fp':=f.next::j::aM) (t':=tU e (vs++[w]) _) ⟨by rw[ai.lD,ai.eI];omega,λp a=>?_,λp a Y=>?_⟩ ⟨f.next,0,false,_,_,j::aM,rfl,aC,by rw[ai.cZ,ai.eI,aH rfl,Nat.zero_sub],.inr aC,aC,g,λp a=>?_⟩) rfl rfl rfl) (N _) rfl (by show lk (bj L (some p) _) p=_;simp only[bj,lk,af.fo.2 rfl]) rfl
  .rcases aer.1 a with rfl|a;·exact .inr (aeq _)
   exact .inl a
  .rw[ai.cZ,ai.eI,ap (dg ab),ai.aJ,ap λe:p=j=>a (by rw[e];exact acm ..)]
  rw[ai.lD,ai.eI];rcases aer.1 a with rfl|a;·omega
  have:=P p a;omega
end
section
variable{ac:Nat->aX}{c:Cx}{s:List SI}{L:Kn}{A B H H':ai}{d:Option af}{l:List bu}{ts us:List Th}{q r:af}{e n m o k i cap:Nat}{vs:List AV}{v w sv:AV}{full ex:Bool}
theorem RO.A9(U:al A H ts)(i:Nat)(f:vs.length=n){a x:aK}(h:∀H',al A H' (ts.set i (tS e 1 (vs.set k w) n full (.slice q 0 n cap ex)))->RO ac c l s (bj L d .agx) H')(g:aT L a=.aD q (0+k*1):=by exact cw)(j:aT L x=w:=by exact cw)(hi:ts[i]?=some (tS e 1 vs n full (.slice q 0 n cap ex)):=by rfl)(ho:k<vs.length:=by first|omega|assumption)(p:w.db=true:=by first|rfl|assumption)(t:w.cells=[w]:=by first|rfl|assumption)(hd:w.bq=true:=by first|rfl|assumption):RO ac c (⟨d,.store 1 a x,none,[],[]⟩::l) s L H:=by have u:vs.map id=vs:=List.map_id vs;refine RO.gF (f:=id) (zs:=vs) U i w f (λH' b=>h H' ?_) g j (by rw[u];exact hi) ho p t hd;rw[List.map_id]at b;exact b
end
section
variable{ac:Nat->aX}{c:Cx}{s:List SI}{L:Kn}{A B H H':ai}{d:Option af}{l:List bu}{ts us:List Th}{q r:af}{e n m o k i cap size:Nat}{vs:List AV}{v w sv:AV}{full ex:Bool}
theorem Ze{v:AV}{i:af}(h:fj v=some i):v.bq=true:=by cases v<;>first|rfl|cases h
def pA(L:Kn):List af->List (Option af)
 |[]=>[]
 |p::a=>fj (lk L p)::pA L a
theorem wE{aa:am AV}(f:Le L aa):∀{ps is:List af}{H:ai},pA L ps=is.map some->(cS aa H ps).1.next=H.next/\(∀j,j∉is->(cS aa H ps).1.get j=H.get j)/\∀a,(cB a (cS aa H ps).2).next=a.next/\∀j,(cB a (cS aa H ps).2).get j=if j∈is then H.get j else a.get j
 |[],[],H,_=>⟨rfl,λ_ _=>rfl,λa=>⟨rfl,λj=>by simp[cS,cB]⟩⟩
 |[],_::_,H,h=>by simp[pA]at h
 |_::_,[],H,h=>by simp[pA]at h
 |p::ps,i::is,H,h=>by
  simp only[pA,aez,ae1]at h;have g:aa.get .agx p=lk L p:=f.get rfl (Ze h.1);obtain⟨h1,h2,h3⟩:=wE f (ps:=ps) (is:=is) (H:=H.set i .none) h.2;simp only[cS,g,h.1];refine⟨h1,λj hj=>?_,λa=>⟨?_,λj=>?_⟩⟩;·rw[h2 j λt=>hj (aen _ t),ai.aJ,ap λe=>hj (by rw[e];exact acm ..)]
  .simp only[cB];exact(h3 a).1
  simp only[cB,ai.aJ];by_cases b:j=i;·subst b;simp
  rw[ap b,(h3 a).2];simp only[aer,b,false_or,ai.aJ,bA]
theorem Fs.move{A a H H':ai}(b:H'.next=H.next)(g:a.next.az=A.next.az)(hg:∀j,A.next.az<=j.az->H'.get j=H.get j):∀{fs:List (List af)}{ts:List Th},Fs A H fs ts->Fs a H' fs ts|[],[],_=>trivial|[],_::_,h=>h.elim|_::_,[],h=>h.elim|f::fs,t::ts,⟨h1,h2,h3,i⟩=>⟨t.fr h1 (by rw[b];exact aeq _) λj hj=>hg j (h2 j hj),λj hj=>by rw[g];exact h2 j hj,h3,Fs.move b g hg i⟩
theorem al.show{f g h:ai}{is:List af}(a:f.next=H.next)(h0:∀j,j∉is->f.get j=H.get j)(p:∀j∈is,j.az<H.next.az)(b:h.next=g.next)(hu:∀j,h.get j=if j∈is then H.get j else g.get j)(U:al f g us):al H h us:=by
 obtain⟨hg,t,u⟩:=U;refine⟨⟨by rw[b,<-a];exact hg.nx,λj hj=>?_⟩,t,u.move b (by rw[a]) λj hj=>?_⟩
 .rw[hu];split;·rfl
  rename_i i;rw[hg.cM j (by rw[a];exact hj),h0 j i]
 rw[hu,ap λi=>?_];have:=p j i;rw[a]at hj;omega
theorem RO.yM{f:aK}{args:List aK}{fv:AV}{t:List AV}{F is:List af}{re:List fU}{Q:AV->List Th->Prop}(U:al A H ts)(G:∀j∈is,j.az<H.next.az)(p:∀C,C.next=H.next->(∀j,j∉is->C.get j=H.get j)->YF ac fv t C λv b=>∃i,al C b i/\Q v i)(h:∀v i D,Q v i->aZ H D->al A D (i++ts)->(∀aa,Le (bj L d v) aa->dl aa D re=true)/\RO ac c l s (bj L d v) D)(O:pA L F=is.map some:=by exact cw)(P:aT L f=fv:=by exact cw)(I:fv.bq=true:=by first|rfl|assumption)(S:args.map (aT L)=t:=by rfl)(J:t.all AV.bq=true:=by repeat first|rfl|assumption|(refine ad ?_ ?_)):RO ac c (⟨d,.call f args,none,F,re⟩::l) s L H:=λaa g=>by
 have N:args.map (gv aa)=t:=by subst S;refine afK λx T=>?_;exact g.gv rfl (afv.1 J _ (aeX T))
 obtain⟨h1,h2,h3⟩:=wE g (H:=H) O;generalize V:cS aa H F=a at h1 h2 h3;have key:YF ac fv t a.1 λv b=>dl (aO aa d v) (cB b a.2) re=true/\∃n,Xo ac n l ⟨aO aa d v,c.M,c.R⟩ (cB b a.2) (iD ac c.K s .none):=by refine(p a.1 h1 h2).mono λv b E=>?_;obtain⟨i,hl,W⟩:=E;obtain⟨X,Y⟩:=h3 b;have y:=hl.show h1 h2 G X Y;obtain⟨Z,h7⟩:=h v i _ W y.gr (U.eK y);exact⟨Z _ (g.set d v),h7 _ (g.set d v)⟩
 obtain⟨n,hn⟩:=key;obtain⟨m,u⟩:=(vP ac n).call (K:=λm v b=>dl (aO aa d v) (cB b a.2) re=true/\Xo ac m l ⟨aO aa d v,c.M,c.R⟩ (cB b a.2) (iD ac c.K s .none)) (λm m' v H u h=>⟨h.1,h.2.mono u λ_ _ h=>h⟩) ((mono ac n).call (aeq _) (λv b E=>E.2.imp λm u=>⟨E.1,u⟩) hn);refine⟨max n m+1,?_⟩;simp only[Xo,Go.ak.aq,dc,bc,V];rw[g.gv P I,N];refine(show Xf ac n fv t _ _ from u).mono (Nat.le_max_left ..) λv b z=>?_;rw[aH z.1];exact(show Xo ac m l _ _ _ from z.2).mono (Nat.le_max_right ..) λ_ _ h=>h
theorem RO.rZ{x:aK}{i is:List af}(z:bx H q o=some v)(u:q∉is)(h:∀p,(∀j,p.get j=H.get j)->p.next=H.next->RO ac c l s (bj L d v) p)(C:aT L x=.aD q o:=by exact cw)(D:pA L i=is.map some:=by exact cw):RO ac c (⟨d,.bk x,none,i,[]⟩::l) s L H:=λaa f=>by
 obtain⟨h1,h2,h3⟩:=wE f (H:=H) D;generalize E:cS aa H i=b at h1 h2 h3;obtain⟨F,G⟩:=h3 b.1;have g:∀j,(cB b.1 b.2).get j=H.get j:=λj=>by
  rw[G];split;·rfl
  rename_i t;exact h2 j t
 obtain⟨n,t⟩:=h _ g (F.trans h1) _ (f.set d v);refine⟨n+1,?_⟩;have a:bx b.1 q o=some v:=by simp only[bx,h2 q u];exact z
 have he:aE (.bk x) aa b.1=some (v,b.1):=by
  simp only[aE,f.gv C rfl];unfold bx at a;split at a
  .rename_i cc n _ _ _ _ hg;split at a;·rename_i hb;injection a with a;have y:o<n:=afs.mp hb;simp only[gz,du,hg,eX,aH y,a,abu,bA];rfl
   cases a
  cases a
 simp only[Xo,Go.ak.aq,dc,bc,E,he,dl];exact t
theorem al.r9(U:al A H ts)(i:Nat)(hi:ts[i]?=some (tB e q vs):=by rfl):A.next.az<=q.az/\q.az<H.next.az:=by obtain⟨f,a,b,_⟩:=U.iu i hi;exact⟨b q a.1,a.2.2.elim λ_ h=>h.2.2⟩
theorem al.ua(U:al A H ts)(i:Nat)(hi:ts[i]?=some (tS e size vs n full (.slice q o m cap ex)):=by rfl):A.next.az<=q.az/\q.az<H.next.az:=by
 obtain⟨g,a,b,_⟩:=U.iu i hi;have hb:=cI.below a;rcases a with⟨_,_,_,h⟩|⟨j,p,aM,cap,f,rfl,h2,_⟩;·cases h
 injection h2 with h2;subst h2;exact⟨b _ (acm ..),hb _ (acm ..)⟩
end
section
variable[Ov]
section
variable{P:Program}
def abJ(w:World):bS:=⟨λb=>w.heap.size<=b,λ_=>True,λ_=>False,λ_=>False⟩
end
section
variable{P:Program}
def ki(n c:Nat):Value->AV
 |.int k m=>.int (kc k) m
 |.bool b=>.bool b
 |.string t=>.str (t.data.toList.map af5)
 |.slice none 0 0=>.aG
 |.slice (some a) len cap=>if len<=cap then(if cap=0 then(if 0<c then .slice (af.cq n) 0 0 0 true else .ct)else match a with
   |⟨b,off,none⟩=>if b<c then .slice (af.cq (n+b)) off len cap true else .ct
   |_=>.ct)else .ct
 |_=>.ct
def ul(P:Program)(n:Nat)(w:World):aQ:=⟨λj=>if j.az<=n then some (j.az - 1,0)else if j.az<=n+w.heap.size then some (j.az - n - 1,0)else none,λb=>match w.heap[b]? with
 |some (.cells cs e _)=>(cs.size,(dV P e).getD 0)
 |_=>(0,0)⟩
theorem FA{n b:Nat}{w:World}(h:b<w.heap.size):ul P n w (af.cq (n+b))=some (b,0):=by show(if(af.cq (n+b)).az<=n then _ else _)=_;rw[af.jD,ap ab,aH ab];congr 2;omega
theorem Mu{n:Nat}{w:World}(v:Value):VR (ul P n w) (ki n w.heap.size v) v:=by
 unfold ki;split;·simp[VR]
 .simp[VR]
 .simp[VR]
 .simp[VR]
 .rename_i a len cap;split
  .rename_i h1;split
   .rename_i h2;subst h2;split;·rename_i h3;simp only[VR];exact⟨ab,aeq _,aeq _,λ_=>trivial,0,0,by have:=FA (P:=P) (n:=n) h3;simpa using this,λh=>absurd rfl h,λh=>by cases h⟩
    simp[VR]
   rename_i h2;split
   .rename_i b off;split;·rename_i h3;simp only[VR];exact⟨trivial,h1,aeq _,λ_=>trivial,b,0,FA h3,λ_=>by rw[aeL],λh=>by cases h⟩
    simp[VR]
   simp[VR]
  simp[VR]
 simp[VR]
def na(n:Nat)(w:World)(b:Nat):bO:=match w.heap[b]? with
 |some (.cells cs e _)=>.cells (bX (cs.toList.map (ki n w.heap.size))) cs.size e false [] 0
 |_=>.none
def BG(n:Nat)(w:World):Nat->am bO
 |0=>.aF
 |k+1=>(BG n w k).set .none (af.cq (n+k)) (na n w k)
def kj(n:Nat)(w:World):ai:=⟨BG n w w.heap.size,af.cq (n+w.heap.size)⟩
theorem Mv(n:Nat)(w:World)(j:af):∀k,am.get bO.none j (BG n w k)=if n<j.az/\j.az<=n+k then na n w (j.az - n - 1)else .none
 |0=>by rw[ap ab];exact nQ j j
 |k+1=>by
  rw[BG,am.aJ,Mv n w j k];have e:j=af.cq (n+k)↔j.az=n+k+1:=⟨λe=>by rw[e,af.jD],λe=>af.qW (by rw[af.jD];exact e)⟩;by_cases h:j.az=n+k+1;·rw[aH (e.2 h),aH ab];congr 1;omega
  rw[ap λa=>h (e.1 a)];by_cases h2:n<j.az/\j.az<=n+k;·rw[aH h2,aH ab]
  rw[ap h2,ap ab]
theorem Mw(n:Nat)(w:World)(j:af):(kj n w).get j=if n<j.az/\j.az<=n+w.heap.size then na n w (j.az - n - 1)else .none:=Mv n w j _
theorem Mx{n b:Nat}{w:World}(h:b<w.heap.size):(kj n w).get (af.cq (n+b))=na n w b:=by rw[Mw,af.jD,aH ab];congr 1;omega
theorem abK{n b:Nat}{w:World}{cs:Array Value}{e:TypeId}{fr:Nat×Nat}(h:w.heap[b]?=some (.cells cs e fr)):OR P (ul P n w) (na n w b) 0 (.cells cs e fr):=by simp only[na,h,OR];refine⟨trivial,ab,λi hi=>?_,λh=>by cases h⟩;refine⟨cs[i],by rw[aeL,getElem?_pos cs i hi],?_⟩;rw[vR (by simpa using hi)];simp only[afw,Array.getElem_toList];exact Mu _
theorem abL{n:Nat}{w:World}(E:P.globals.size=n)(F:n<=w.heap.size):bh P (abJ w) (ul P n w) (kj n w) w:=by
 have hg:=Mw n w;have key:∀i,(kj n w).get i≠.none->∃b c e f,i.az=n+b+1/\b<w.heap.size/\w.heap[b]?=some (.cells c e f)/\(kj n w).get i=na n w b/\ul P n w i=some (b,0):=by
  intro i hi;have r:=hg i;rw[r]at hi;split at hi
  .rename_i h;have hb:i.az - n - 1<w.heap.size:=ab;have p:=hi;unfold na at p;split at p;·rename_i cs e f z;refine⟨i.az - n - 1,cs,e,f,ab,hb,z,by rw[r,aH h],?_⟩;rw[show i=af.cq (n+(i.az - n - 1))from af.qW (by rw[af.jD];omega)];have:=FA (P:=P) (n:=n) hb;rw[this,af.jD];congr 2;omega
   exact absurd rfl p
  exact absurd rfl hi
 have l:∀b c e f,w.heap[b]?=some (.cells c e f)->na n w b=.cells (bX (c.toList.map (ki n w.heap.size))) c.size e false [] 0:=λb c e f h=>by simp only[na,h]
 have s:∀i j,i∉((kj n w).get j).aM:=λi j h=>by
  by_cases hj:(kj n w).get j=.none;·rw[hj]at h;cases h
  obtain⟨b,c,e,f,_,_,h3,o,_⟩:=key j hj;rw[o,l b c e f h3]at h;cases h
 refine⟨λi hi=>?_,λi j b x y u hi hj a m=>?_,λi j h=>absurd h (s i j),λi b x hi v q=>?_,λi hi=>?_,λk A=>⟨A,trivial⟩,λg h=>?_,λi b x G hi a m=>?_,λi b x q=>?_,λi b x _ _=>trivial,λi h=>h.elim,λi h=>h.elim⟩;·obtain⟨b,c,e,f,_,_,h3,o,t⟩:=key i hi;exact⟨b,0,_,t,h3,by rw[o];exact abK h3⟩
 .exfalso;obtain⟨b1,_,_,_,H,_,_,_,B⟩:=key i hi;obtain⟨b2,_,_,_,I,_,_,_,C⟩:=key j hj;rw[B]at a;rw[C]at m;injection a with a;injection a with a;injection m with m;injection m with m;exact u (af.qW ab)
 .obtain⟨b1,c,e,f,_,_,h3,o,_⟩:=key i hi;rw[o,l b1 c e f h3]at v;cases v
 .have D:n+w.heap.size+1<=i.az:=by have:(af.cq (n+w.heap.size)).az<=i.az:=hi;rw[af.jD]at this;exact this
  refine⟨by rw[hg,ap ab],?_⟩;show(if i.az<=n then _ else _)=_;rw[ap ab,ap ab]
 .show(if(af.cq g).az<=n then _ else _)=_;rw[af.jD,aH ab];simp
 .obtain⟨b1,c,e,f,_,_,h3,o,t⟩:=key i hi;rw[t]at a;injection a with a;injection a with a;subst a;rw[h3]at m;injection m with m;subst m;rw[o,l b1 c e f h3];simp only[ef];show(match w.heap[b1]? with|some (.cells cs e _)=>(cs.size,(dV P e).getD 0)|_=>(0,0))=_;rw[h3]
 have d:(if i.az<=n then some (i.az - 1,0)else if i.az<=n+w.heap.size then some (i.az - n - 1,0)else none)=some (b,x):=q;have:=af.oT i;split at d;·injection d with d;injection d with d;omega
 split at d;·injection d with d;injection d with d;omega
 cases d
end
section
variable{P:Program}{K:Type}{cP:TypeId×Value->K}{w:World}{n:Nat}
def kL(cP:TypeId×Value->K)(P:Program)(w:World)(t:TypeId)(cs:List Value):Prop:=∃fuel x,DataW.trod cP P w 0 (λ_=>true) true fuel t cs=some x
theorem My{a:Addr}{v:Value}(h:w.cell? a=some v):∃c e f,a.spot=none/\w.heap[a.block]?=some (.cells c e f)/\c[a.off]?=some v:=by
 unfold World.cell? at h;split at h
 .rename_i c e f b;split at h;·cases h
  rename_i hs;exact⟨c,e,f,by simpa using hs,b,h⟩
 cases h
theorem Mz{b off i:Nat}:(⟨b,off,none⟩:Addr).add i=⟨b,off+i,none⟩:=by
 unfold Addr.add;split;·rename_i h;rw[h];rfl
 rfl
theorem MA{c:Type}{Q:Nat->c->Prop}:∀{len:Nat},(∀i,i<len->∃a,Q i a)->∃b:List c,b.length=len/\∀i(h:i<b.length),Q i b[i]
 |0,_=>⟨[],rfl,λi h=>absurd h aC⟩
 |len+1,h=>by
  obtain⟨b,h1,h2⟩:=MA (len:=len) λi hi=>h i ab;obtain⟨a,d⟩:=h len ab;refine⟨b++[a],by simp[h1],λi hi=>?_⟩;by_cases e:i<b.length;·rw[List.getElem_append_left e];exact h2 i e
  have:i=b.length:=by simp at hi;omega
  subst this;rw[List.getElem_append_right (aeq _)];simpa[h1]using d
theorem zd{N:Type}{R:ai->N->List AV->Prop}{X:N->Prop}{t e:TypeId}{size:Nat}(ht:P.underlying t=some (.slice e))(A:P.cellsOf e=size)(T:0<size)(hg:∃c e f,w.heap[0]?=some (.cells c e f))(V:∀cs,kL cP P w e cs->∃a:N,R (kj n w) a (cs.map (ki n w.heap.size))/\X a){cs:List Value}(h:kL cP P w t cs):∃v O,cs=[v]/\cK size R (kj n w) O (ki n w.heap.size v)/\∀a∈O,X a:=by
 obtain⟨ax,x,h⟩:=h;obtain⟨c0,e0,f0,B⟩:=hg;have C:0<w.heap.size:=(Array.getElem?_eq_some_iff.1 B).1;rcases DataW.trod_slice ht h with⟨rfl,_⟩|⟨a,len,cap,r,J,m,_,rfl,_,_,D,_,ay,K,s,_⟩;·exact⟨_,[],rfl,⟨[],.inl ⟨rfl,rfl,rfl⟩,λk l=>absurd l aC⟩,λa h=>by cases h⟩
 have E:∀i,i<cap->∃cs,w.cells? 0 (a.add (i*size)) size=some cs/\(i<len->∃y,DataW.trod cP P w 0 (λ_=>true) true m e cs=some y):=λi hi=>by
  by_cases hl:i<len;·have h1:=K i hl;rw[getElem?_pos r i ab,aaw]at h1;obtain⟨cs,h2,h3⟩:=h1;rw[A]at h2;exact⟨cs,h2,λ_=>⟨_,h3⟩⟩
  obtain⟨h0,h1⟩:=s rfl;have h1:=h1 (i - len) ab;rw[getElem?_pos J _ ab,aaw]at h1;obtain⟨cs,h2,_⟩:=h1;rw[A,show len+(i - len)=i by omega]at h2;exact⟨cs,h2,λh=>absurd h hl⟩
 by_cases F:cap=0
 .subst F;obtain rfl:len=0:=ab;refine⟨_,[],rfl,⟨[],?_,λk l=>absurd l aC⟩,λa h=>by cases h⟩;simp only[ki,aeq,bc,C];refine .inr ⟨af.cq n,0,0,true,bX (c0.toList.map (ki n w.heap.size)),c0.size,e0,false,[],0,rfl,?_,aC,aC,λj hj=>absurd hj aC,?_,aeq _⟩;·have:=Mx (n:=n) C;rw[agl]at this;rw[this];simp only[na,B]
  show(af.cq n).az<(af.cq (n+w.heap.size)).az;rw[af.jD,af.jD];omega
 obtain⟨W,h1,_⟩:=E 0 ab;obtain⟨_,a1,Y⟩:=World.cells?_some h1;have G:=Y 0 T;rw[getElem?_pos W 0 ab]at G;obtain⟨c,e',f',q,d,g⟩:=My G;have Z:(a.add (0*size)).add 0=a:=by rw[Nat.zero_mul];unfold Addr.add;simp
 rw[Z]at q d g;obtain⟨b,off,sp⟩:=a;simp only at q d g;subst q;have bH:b<w.heap.size:=(Array.getElem?_eq_some_iff.1 d).1;have cell:∀i,i<cap->∃cs,cs.length=size/\(∀j(h:j<cs.length),c[off+i*size+j]?=some cs[j])/\(i<len->∃y,DataW.trod cP P w 0 (λ_=>true) true m e cs=some y):=λi hi=>by obtain⟨cs,Q,u⟩:=E i hi;obtain⟨_,z,S⟩:=World.cells?_some Q;refine⟨cs,z,λj hj=>?_,u⟩;have g5:=S j ab;rw[getElem?_pos cs j hj,Mz,Mz]at g5;obtain⟨c',_,_,_,o,g7⟩:=My g5;simp only at o g7;rw[d]at o;injection o with o;injection o with o;subst o;exact g7
 have L:off+len*size<=c.size:=by
  by_cases ag:len=0;·subst ag;have:=(Array.getElem?_eq_some_iff.1 g).1;omega
  obtain⟨cs,Q,u,_⟩:=cell (len - 1) ab;have:=(Array.getElem?_eq_some_iff.1 (u (size - 1) ab)).1;have e:len*size=(len - 1)*size+size:=by conv=>lhs;rw[show len=len - 1+1 by omega,Nat.succ_mul]
  omega
 have M:ki n w.heap.size (.slice (some ⟨b,off,none⟩) len cap)=.slice (af.cq (n+b)) off len cap true:=by simp only[ki,D,F,bH,bc,bA]
 let p:List AV:=(afD (len*size)).map λj=>ki n w.heap.size (c.getD (off+j) default);have H:p.length=len*size:=by simp[p]
 have av:∀i,i<len->∃a:N,R (kj n w) a ((p.drop (i*size)).take size)/\X a:=λi hi=>by
  obtain⟨cs,Q,u,z⟩:=cell i ab;obtain⟨y,z⟩:=z hi;obtain⟨a,r1,r2⟩:=V cs ⟨m,y,z⟩;refine⟨a,?_,r2⟩;suffices e:(p.drop (i*size)).take size=cs.map (ki n w.heap.size)by rw[e];exact r1
  have a2:i*size+size<=len*size:=by rw[<-Nat.succ_mul];exact aeV _ hi
  apply agb;·rw[aeP,afF,H,aeR,Q];omega
  intro j h1 h2;rw[aeR]at h2;have S:=u j h2;simp only[List.getElem_take,List.getElem_drop,p,afw,List.getElem_range];rw[<-afU,ae6,S];rfl
 obtain⟨O,aw,hq⟩:=MA av;refine⟨_,O,rfl,⟨p,?_,λk l=>(hq k l).1⟩,λa ha=>?_⟩
 .rw[M,aw];refine .inr ⟨af.cq (n+b),off,cap,true,bX (c.toList.map (ki n w.heap.size)),c.size,e',false,[],0,rfl,?_,L,H,λj hj=>?_,?_,D⟩;·rw[Mx bH];simp only[na,d]
  .have I:off+j<c.size:=ab;rw[vR (by simpa using I)];simp only[afw,Array.getElem_toList,p,List.getElem_range];rw[ae6,getElem?_pos c _ I];rfl
  show(af.cq (n+b)).az<(af.cq (n+w.heap.size)).az;rw[af.jD,af.jD];omega
 obtain⟨k,l,rfl⟩:=aeB ha;exact(hq k l).2
end
section
variable{P:Program}{K:Type}{cP:TypeId×Value->K}{w:World}{n:Nat}
def wR(P:Program)(t:TypeId)(l:List (TypeId×Nat)):Prop:=∃fs,P.underlying t=some (.struct fs)/\fs.toList.map (λf=>(f.type,f.offset))=l
theorem ze{t:TypeId}{l:List (TypeId×Nat)}(e:wR P t l){cs:List Value}(h:kL cP P w t cs):cs.length=P.cellsOf t/\∀p∈l,kL cP P w p.1 ((cs.drop p.2).take (P.cellsOf p.1)):=by
 obtain⟨a,g,rfl⟩:=e;obtain⟨d,x,h⟩:=h;obtain⟨j,m,_,_,h1,h2,h3⟩:=DataW.trod_struct g h;refine⟨h1,λp k=>?_⟩;obtain⟨f,b,rfl⟩:=aeK.1 k;obtain⟨i,hi,rfl⟩:=aeB b;have c:i<a.size:=by simpa using hi
 have:=h3 i a[i] (getElem?_pos a i c);rw[getElem?_pos j i ab]at this;exact⟨m,_,this⟩
structure MB(P:Program)where
 i:TypeId
 u:TypeId
 s:TypeId
 is:TypeId
 us:TypeId
 e:TypeId
 es:TypeId
 st:TypeId
 zf:TypeId
 j:TypeId
 b:TypeId
 bs:TypeId
 g:TypeId
 hi:P.underlying i=some (.int .i64)
 hu:P.underlying u=some (.int .u8)
 hs:P.underlying s=some .string
 dB:P.underlying is=some (.slice i)
 kX:P.underlying us=some (.slice u)
 gD:P.underlying es=some (.slice e)
 MC:P.underlying zf=some (.slice st)
 bH:P.underlying bs=some (.slice b)
 he:wR P e [(i,0),(is,1)]
 cz:wR P st [(u,0),(i,1),(is,2),(i,3),(i,4),(s,5)]
 hj:wR P j [(u,0),(is,1),(s,2),(us,3),(es,4)]
 hb:wR P b [(is,0),(zf,1),(j,2)]
 hg:wR P g [(s,0),(i,1),(i,2),(bs,3)]
 ci:P.cellsOf i=1
 cu:P.cellsOf u=1
 cs:P.cellsOf s=1
 zg:P.cellsOf is=1
 MD:P.cellsOf us=1
 bi:P.cellsOf es=1
 ME:P.cellsOf zf=1
 MF:P.cellsOf bs=1
 ce:P.cellsOf e=2
 FB:P.cellsOf st=6
 cj:P.cellsOf j=5
 cb:P.cellsOf b=7
 cg:P.cellsOf g=4
abbrev AW(n:Nat)(w:World)(cs:List Value):List AV:=cs.map (ki n w.heap.size)
theorem cK.MG{g:Type}{f:g->AV}{H:ai}{c:List g}{v:AV}(h:cK 1 (λ_ a cs=>cs=[f a]) H c v):Sl H 1 (c.map f) c.length v:=by
 obtain⟨i,h1,h2⟩:=h;have hl:=h1.length;have e:i=c.map f:=by apply agb (by rw[hl,aeR];omega);intro k d b;rw[aeR]at b;have:=h2 k b;rw[af0,aeE d]at this;simp only[afJ,afE,ae1,and_true]at this;rw[afw,this]
 rw[<-e];exact h1
variable(Y:MB P)
section
variable{Y}
theorem um{cs:List Value}(h:kL cP P w Y.i cs):∃m:Int,AW n w cs=[aI m]:=by obtain⟨a,x,h⟩:=h;obtain⟨m,rfl,_⟩:=DataW.trod_int Y.hi h;exact⟨m,rfl⟩
theorem FC{cs:List Value}(h:kL cP P w Y.u cs):∃m:Nat,AW n w cs=[aU m]/\m<256:=by obtain⟨b,x,h⟩:=h;obtain⟨m,rfl,_,a⟩:=DataW.trod_int Y.hu h;simp only[Lit.wf,aew,decide_eq_true_eq]at a;obtain⟨m,rfl⟩:∃k:Nat,m=k:=⟨m.toNat,by have:(0:Int)<=m:=a.1;omega⟩;exact⟨m,rfl,by have:(m:Int)<=255:=a.2;omega⟩
theorem FD{cs:List Value}(h:kL cP P w Y.s cs):∃t:List Nat,AW n w cs=[.str t]/\∀c∈t,c<256:=by obtain⟨a,x,h⟩:=h;obtain⟨t,rfl,_⟩:=DataW.trod_string Y.hs h;exact⟨_,rfl,λc d=>by obtain⟨b,_,rfl⟩:=aeK.1 d;exact b.toNat_lt⟩
variable(hg:∃c e f,w.heap[0]?=some (.cells c e f))
include hg
theorem BH{cs:List Value}(h:kL cP P w Y.is cs):∃(v:AV)(l:List Int),AW n w cs=[v]/\fx (kj n w) l v:=by obtain⟨v,a,rfl,h1,_⟩:=zd (n:=n) (R:=λ_(m:Int)cs=>cs=[aI m]) (X:=λ_=>True) Y.dB Y.ci ab hg (λcs h=>by obtain⟨m,e⟩:=um (Y:=Y) (n:=n) h;exact⟨m,e,trivial⟩) h;exact⟨_,a,rfl,cK.MG h1⟩
theorem abM{cs:List Value}(h:kL cP P w Y.us cs):∃(v:AV)(l:List Nat),AW n w cs=[v]/\D4 (kj n w) l v/\∀c∈l,c<256:=by obtain⟨v,a,rfl,h1,h2⟩:=zd (n:=n) (R:=λ_(m:Nat)cs=>cs=[aU m]) (X:=λc=>c<256) Y.kX Y.cu ab hg (λcs h=>by obtain⟨m,e,b⟩:=FC (Y:=Y) (n:=n) h;exact⟨m,e,b⟩) h;exact⟨_,a,rfl,cK.MG h1,h2⟩
theorem abN{cs:List Value}(h:kL cP P w Y.e cs):∃g:G.Edge,nW (kj n w) g (AW n w cs):=by obtain⟨hl,a⟩:=ze Y.he h;rw[Y.ce]at hl;match cs,hl with|[c0,c1],_=>have b:=a (Y.i,0) aC;have c:=a (Y.is,1) aC;simp only[Y.ci,Y.zg]at b c;obtain⟨m,d⟩:=um (Y:=Y) (n:=n) b;obtain⟨v,l,f,h1⟩:=BH (Y:=Y) (n:=n) hg c;simp only[agm,afJ,afE,aez,afC,agc,ae1,and_true]at d f;exact⟨⟨m,l⟩,v,by simp[d,f],h1⟩
theorem abO{cs:List Value}(h:kL cP P w Y.st cs):∃C:G.dI,nX (kj n w) C (AW n w cs)/\∀c∈C.i7,c<256:=by obtain⟨hl,a⟩:=ze Y.cz h;rw[Y.FB]at hl;match cs,hl with|[c0,c1,c2,c3,c4,c5],_=>have b:=a (Y.u,0) aC;have d:=a (Y.i,1) aC;have e:=a (Y.is,2) aC;have f:=a (Y.i,3) aC;have g:=a (Y.i,4) aC;have j:=a (Y.s,5) aC;simp only[Y.ci,Y.zg,Y.cu,Y.cs]at b d e f g j;obtain⟨x,k,_⟩:=FC (Y:=Y) (n:=n) b;obtain⟨y,m⟩:=um (Y:=Y) (n:=n) d;obtain⟨v,l,o,h2⟩:=BH (Y:=Y) (n:=n) hg e;obtain⟨z,p⟩:=um (Y:=Y) (n:=n) f;obtain⟨A,q⟩:=um (Y:=Y) (n:=n) g;obtain⟨t,r,B⟩:=FD (Y:=Y) (n:=n) j;simp only[agm,afJ,afE,aez,afC,agc,ae1,and_true]at k m o p q r;exact⟨⟨x,y,l,z,A,t⟩,⟨v,by simp[k,m,o,p,q,r],h2⟩,B⟩
theorem abP{cs:List Value}(h:kL cP P w Y.j cs):∃j:G.eV,mM (kj n w) j (AW n w cs)/\(∀c∈j.i7,c<256)/\∀c∈j.bp,c<256:=by obtain⟨hl,a⟩:=ze Y.hj h;rw[Y.cj]at hl;match cs,hl with|[c0,c1,c2,c3,c4],_=>have d:=a (Y.u,0) aC;have f:=a (Y.is,1) aC;have g:=a (Y.s,2) aC;have i:=a (Y.us,3) aC;have k:=a (Y.es,4) aC;simp only[Y.zg,Y.cu,Y.cs,Y.MD,Y.bi]at d f g i k;obtain⟨r,l,_⟩:=FC (Y:=Y) (n:=n) d;obtain⟨v,x,m,h1⟩:=BH (Y:=Y) (n:=n) hg f;obtain⟨t,o,h2⟩:=FD (Y:=Y) (n:=n) g;obtain⟨v3,y,p,h3,b⟩:=abM (Y:=Y) (n:=n) hg i;obtain⟨v4,z,q,A,_⟩:=zd (n:=n) (R:=nW) (X:=λ_=>True) Y.gD Y.ce ab hg (λcs h=>by obtain⟨e,h⟩:=abN (Y:=Y) (n:=n) hg h;exact⟨e,h,trivial⟩) k;simp only[agm,afJ,afE,aez,afC,agc,ae1,and_true]at l m o p q;subst q;exact⟨⟨r,x,t,y,z⟩,⟨v,v3,ki n w.heap.size c4,by simp[l,m,o,p],h1,h3,A⟩,h2,b⟩
structure FE(b:G.dE):Prop where
 st:∀s∈b.aL,∀c∈s.i7,c<256
 fn:∀c∈b.aA.i7,c<256
 kd:∀c∈b.aA.bp,c<256
theorem abQ{cs:List Value}(h:kL cP P w Y.b cs):∃r:G.dE,i6 (kj n w) r (AW n w cs)/\FE r:=by obtain⟨hl,a⟩:=ze Y.hb h;rw[Y.cb]at hl;match cs,hl with|[c0,c1,c2,c3,c4,c5,c6],_=>have g:=a (Y.is,0) aC;have i:=a (Y.zf,1) aC;have k:=a (Y.j,2) aC;simp only[Y.zg,Y.ME,Y.cj]at g i k;obtain⟨v0,o,l,h0⟩:=BH (Y:=Y) (n:=n) hg g;obtain⟨q,p,m,h1,d⟩:=zd (n:=n) (R:=nX) (X:=λs=>∀c∈s.i7,c<256) Y.MC Y.FB ab hg (λcs h=>abO (Y:=Y) (n:=n) hg h) i;obtain⟨j,h2,e,f⟩:=abP (Y:=Y) (n:=n) hg k;simp only[agm,afJ,afE,aez,afC,agc,ae1,and_true]at l m h2;subst m;exact⟨⟨o,p,j⟩,⟨v0,ki n w.heap.size c1,_,by simp[l],h0,h1,h2⟩,d,e,f⟩
structure MH(g:G.aY):Prop where
 nm:∀c∈g.i7,c<256
 bl:∀b∈g.aj,FE b
theorem abR{cs:List Value}(h:kL cP P w Y.g cs):∃r:G.aY,dS (kj n w) r (AW n w cs)/\MH r:=by obtain⟨hl,a⟩:=ze Y.hg h;rw[Y.cg]at hl;match cs,hl with|[c0,c1,c2,c3],_=>have c:=a (Y.s,0) aC;have d:=a (Y.i,1) aC;have e:=a (Y.i,2) aC;have f:=a (Y.bs,3) aC;simp only[Y.cs,Y.ci,Y.MF]at c d e f;obtain⟨t,j,h0⟩:=FD (Y:=Y) (n:=n) c;obtain⟨o,k⟩:=um (Y:=Y) (n:=n) d;obtain⟨p,l⟩:=um (Y:=Y) (n:=n) e;obtain⟨v3,q,m,h3,b⟩:=zd (n:=n) (R:=i6) (X:=FE) Y.bH Y.cb ab hg (λcs h=>abQ (Y:=Y) (n:=n) hg h) f;simp only[agm,afJ,afE,aez,afC,agc,ae1,and_true]at j k l m;subst m;exact⟨⟨t,o,p,q⟩,⟨ki n w.heap.size c3,by simp[j,k,l],h3⟩,h0,b⟩
end
end
end
end Go.ak
end
