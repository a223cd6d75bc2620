/- A part. No conditions. -/
import Derived.Test.YtpplokbfajnjhaaGreatDoorA00
set_option linter.all false
open List renaming rec->ajM
open Nat renaming beq->ah8,blt->aiu,ble->ai0
noncomputable section
namespace Go.al.K
section
variable{h:Type}
abbrev KV:=AV->ai->Prop
def dU(n:Nat)(k:Nat->Prop):Prop:=Nat.rec (motive:=λ_=>Prop) (k Nat.zero) (λm _=>k (Nat.succ m)) n
def lM(n:Int)(k:Int->Prop):Prop:=
 Int.rec (motive:=λ_=>Prop) (λm=>dU m λm=>k (.ofNat m)) (λm=>dU m λm=>k (.negSucc m)) n
def oM(p:ah):(ah->Prop)->Prop:=
 ah.rec (motive:=λ_=>(ah->Prop)->Prop) (λk=>k .xH) (λ_ a k=>a λp=>k (.xO p)) (λ_ a k=>a λp=>k (.xI p)) p
def yh(p:ah):(ah->Prop)->Prop:=
 ah.rec (motive:=λ_=>(ah->Prop)->Prop) (λk=>k (.xO .xH)) (λp _ k=>k (.xI p)) (λ_ a k=>a λp=>k (.xO p)) p
def dG(b:Bool)(x y:Prop):Prop:=Bool.rec (motive:=λ_=>Prop) y x b
def vP(b:Bool)(k:Bool->Prop):Prop:=Bool.rec (motive:=λ_=>Prop) (k false) (k true) b
def tW(d:h)(p:ah):az h->(h->Prop)->Prop:=ah.rec (motive:=λ_=>az h->(h->Prop)->Prop)
  (λt k=>az.rec (motive:=λ_=>Prop) (k d) (λ_ v _ _ _=>k v) t)
  (λ_ a t k=>az.rec (motive:=λ_=>Prop) (k d) (λl _ _ _ _=>a l k) t)
  (λ_ a t k=>az.rec (motive:=λ_=>Prop) (k d) (λ_ _ r _ _=>a r k) t) p
def tY(d:h)(p:ah):h->az h->(az h->Prop)->Prop:=ah.rec (motive:=λ_=>h->az h->(az h->Prop)->Prop)
  (λv t k=>az.rec (motive:=λ_=>Prop) (k (.node .aR v .aR)) (λl _ r _ _=>k (.node l v r)) t)
  (λ_ a v t k=>az.rec (motive:=λ_=>Prop) (a v .aR λl=>k (.node l d .aR)) (λl w r _ _=>a v l λl=>k (.node l w r)) t)
  (λ_ a v t k=>az.rec (motive:=λ_=>Prop) (a v .aR λr=>k (.node .aR d r)) (λl w r _ _=>a v r λr=>k (.node l w r)) t) p
def oN(d:h)(t:az h):Nat->(h->Prop)->Prop:=az.rec (motive:=λ_=>Nat->(h->Prop)->Prop)
  (λ_ k=>k d)
  (λ_ v _ a b n k=>Nat.rec (motive:=λ_=>Prop) (k v) (λm _=>dG (ah8 (Nat.mod m 2) 0) (a (Nat.div m 2) k) (b (Nat.div m 2) k)) n) t
def CY(d:h)(x:h)(t:az h)(k:az h->Prop):Prop:=az.rec (motive:=λ_=>Prop) (k (.node .aR x .aR)) (λl _ r _ _=>k (.node l x r)) t
def lK(d:h)(a:Nat->h->az h->(az h->Prop)->Prop)(m:Nat)(x:h)(t:az h)(k:az h->Prop):Prop:=
 az.rec (motive:=λ_=>Prop) (a m x .aR λl=>k (.node l d .aR)) (λl w r _ _=>a m x l λl=>k (.node l w r)) t
def rK(d:h)(a:Nat->h->az h->(az h->Prop)->Prop)(m:Nat)(x:h)(t:az h)(k:az h->Prop):Prop:=
 az.rec (motive:=λ_=>Prop) (a m x .aR λr=>k (.node .aR d r)) (λl w r _ _=>a m x r λr=>k (.node l w r)) t
def t8(d:h)(f:Nat):Nat->h->az h->(az h->Prop)->Prop:=Nat.rec (motive:=λ_=>Nat->h->az h->(az h->Prop)->Prop)
  (λn x t k=>Nat.rec (motive:=λ_=>Prop) (CY d x t k) (λ_ _=>k t) n)
  (λ_ a n x t k=>Nat.rec (motive:=λ_=>Prop) (CY d x t k) (λm _=>dG (ah8 (Nat.mod m 2) 0) (lK d a (Nat.div m 2) x t k) (rK d a (Nat.div m 2) x t k)) n) f
def Aw(l:List Nat):(List Nat->Prop)->Prop:=ajM (motive:=λ_=>(List Nat->Prop)->Prop) (λk=>k []) (λn _ a k=>dU n λn=>a λl=>k (n::l)) l
def pO(v:AV):(AV->Prop)->Prop:=
 AV.rec (motive_1:=λ_=>(AV->Prop)->Prop) (motive_2:=λ_=>(List AV->Prop)->Prop)
   (λ_ c k=>c λl=>k (.tuple l))
   (λ_ c k=>c λl=>k (.agg l))
   (λb k=>vP b λb=>k (.bool b))
   (λj n k=>dU j λj=>lM n λn=>k (.int j n))
   (λs k=>Aw s λs=>k (.str s))
   (λid off k=>oM id λid=>dU off λoff=>k (.aD id off))
   (λk=>k .j5)
   (λid off len cap ex k=>oM id λid=>dU off λoff=>dU len λlen=>dU cap λcap=>vP ex λex=>k (.slice id off len cap ex))
   (λk=>k .bh)
   (λid k=>oM id λid=>k (.map id))
   (λk=>k .cL)
   (λf _ _ d e k=>dU f λf=>d λa=>e λb=>k (.func f a b))
   (λid k=>oM id λid=>k (.yield id))
   (λk=>k .nilFunc)
   (λt _ c k=>dU t λt=>c λv=>k (.iface t v))
   (λk=>k .nilIface)
   (λk=>k .bM)
   (λk=>k [])
   (λ_ _ g i k=>g λv=>i λl=>k (v::l)) v
def mL(l:List AV):(List AV->Prop)->Prop:=ajM (motive:=λ_=>(List AV->Prop)->Prop) (λk=>k []) (λv _ a k=>pO v λv=>a λl=>k (v::l)) l
def eO(ac:az AV)(x:aJ)(k:AV->Prop):Prop:=aJ.rec (motive:=λ_=>Prop) (λp=>tW .ajS p ac k) k x
def Ax(ac:az AV)(l:List aJ):(List AV->Prop)->Prop:=
 ajM (motive:=λ_=>(List AV->Prop)->Prop) (λk=>k []) (λx _ a k=>eO ac x λv=>a λl=>k (v::l)) l
def iI(o:Option h)(k:h->Prop):Prop:=Option.rec (motive:=λ_=>Prop) False k o
def yi(H:ai)(id:ah)(k:bP->Prop):Prop:=ai.rec (motive:=λ_=>Prop) (λt _=>tW .none id t k) H
def oO(H:ai)(id:ah)(o:bP)(k:ai->Prop):Prop:=ai.rec (motive:=λ_=>Prop) (λt n=>tY .none id o t λt=>k ⟨t,n⟩) H
def mM(H:ai)(o:bP)(k:ah->ai->Prop):Prop:=
 ai.rec (motive:=λ_=>Prop) (λt n=>tY .none n o t λt=>yh n λm=>k n ⟨t,m⟩) H
def CZ(l:List ah):ai->(ai->Prop)->Prop:=
 ajM (motive:=λ_=>ai->(ai->Prop)->Prop) (λH k=>k H) (λi _ a H k=>oO H i .none λH=>a H k) l
def Pf(k:az AV->Nat->Nat->Bool->List ah->Nat->Prop)(o:bP):Prop:=
 bP.rec (motive:=λ_=>Prop) False k (λ_ _=>False) (λ_=>False) (λ_ _ _=>False) (λ_ _ _ _ _ _ _ _=>False) (λ_=>False) (λ_ _ _ _=>False) o
def ua(H:ai)(id:ah)(k:az AV->Nat->Nat->Bool->List ah->Nat->Prop):Prop:=yi H id (Pf k)
def Ay(c:az AV)(n m:Nat):Nat->(List AV->Prop)->Prop:=
 Nat.rec (motive:=λ_=>Nat->(List AV->Prop)->Prop) (λ_ k=>k [])
   (λ_ a off k=>dG (aiu off n) (dU off λoff=>oN .ajS c off λv=>a (Nat.succ off) λl=>k (v::l)) False) m
def yj(l:List AV):az AV->Nat->(az AV->Prop)->Prop:=
 ajM (motive:=λ_=>az AV->Nat->(az AV->Prop)->Prop) (λc _ k=>k c) (λv _ a c off k=>dU off λoff=>t8 .ajS off off v c λc=>a c (Nat.succ off) k) l
def Az(H:ai)(id:ah)(off m:Nat)(k:List AV->Prop):Prop:=
 ua H id λc n _ _ _ _=>Ay c n m off k
def lh(a b:Bool):Bool:=Bool.rec (motive:=λ_=>Bool) false b a
def vQ(l:List AV):Bool:=ajM (motive:=λ_=>Bool) true (λv _ a=>lh v.cW a) l
def lN(l:List h):Nat:=ajM (motive:=λ_=>Nat) Nat.zero (λ_ _ a=>Nat.succ a) l
def C1(H:ai)(id:ah)(off:Nat)(l:List AV)(k:ai->Prop)(c:az AV)(n e:Nat)(rw:Bool)(aK:List ah)(fz:Nat):Prop:=
 dG (lh rw (lh (ai0 fz off) (lh (ai0 (Nat.add off (lN l)) n) (vQ l))))
     (CZ aK H λH=>yj l c off λc=>oO H id (.cells c n e true [] fz) k) False
def vR(H:ai)(id:ah)(off:Nat)(l:List AV)(k:ai->Prop):Prop:=ua H id (C1 H id off l k)
def ub(v:AV)(k:ah->Nat->Prop):Prop:=
 match v with
 |.aD id off=>k id off
 |_=>False
def sn(H:ai)(l:List AV)(n a:Nat)(k:ah->ai->Prop):Prop:=
 yj l .aR 0 λc=>dU n λn=>mM H (.cells c n a true [] 0) k
def C2(a bytes size:Nat)(H:ai)(n:Nat)(l:List AV)(k:KV):Prop:=
 dG (ah8 n 0) (k .bh H) (dG (lh (dT (n*bytes)) (dT n)) (sn H l (n*size) a λid H=>k (.slice id 0 n n false) H) False)
def Hp(size:Nat)(H:ai)(n:Nat)(l:List AV)(k:KV)(id:ah)(off len cap:Nat)(exact:Bool)(a:Nat):Prop:=
 dG (ah8 n 0) (k (.slice id off a cap exact) H)
   (dU (Nat.add off (Nat.mul len size)) λbu=>vR H id bu l λH=>k (.slice id off a cap exact) H)
def Hq(b size:Nat)(H:ai)(k:KV)(id:ah)(off cap:Nat)(a:Nat)(all:List AV)(c:az AV)(m e:Nat)(rw:Bool)(aK:List ah)(fz:Nat):Prop:=
 dG (lh rw (lh (ah8 (Nat.add off (Nat.mul cap size)) m) (lh (ah8 e b) (ai0 fz m))))
   (oO H id (.cells c m e false aK fz) λH=>
   yj all .aR 0 λc=>dU (a*size) λd=>dU (fz - off) λfz=>mM H (.cells c d b true (id::aK) fz) λid H=>k (.slice id 0 a a false) H)
   False
def C3(b size:Nat)(H:ai)(l:List AV)(k:KV)(id:ah)(off len cap:Nat)(exact:Bool)(a:Nat)(c:az AV)(m e:Nat)(rw:Bool)(aK:List ah)(fz:Nat):Prop:=
 Ay c m (Nat.mul len size) off λcM=>mL (cM++l) λall=>
  dG exact (sn H all (a*size) b λid H=>k (.slice id 0 a a false) H) (dG (ah8 len cap) (Hq b size H k id off cap a all c m e rw aK fz) False)
def C4(b bytes size:Nat)(H:ai)(n:Nat)(l:List AV)(k:KV)(id:ah)(off len cap:Nat)(exact:Bool):Prop:=
 dU (Nat.add len n) λa=>dG (ai0 a cap) (Hp size H n l k id off len cap exact a)
   (dG (lh (dT (a*bytes)) (dT a)) (ua H id (C3 b size H l k id off len cap exact a)) False)
def yl(a bytes size:Nat)(H:ai)(s:AV)(n:Nat)(l:List AV)(k:KV):Prop:=
 dG (vQ l)
   (match s with
  |.bh=>C2 a bytes size H n l k
  |.slice id off len cap exact=>C4 a bytes size H n l k id off len cap exact
  |_=>False)
   False
def Hr(x y:AV)(k:Nat->Int->Nat->Int->Prop):Prop:=
 match x,y with
 |.int i a,.int j b=>k i a j b
 |_,_=>False
def Hu(a b:Int)(k:Int->Prop):Prop:=
 Int.rec (motive:=λ_=>Prop) (λm=>Int.rec (motive:=λ_=>Prop) (λn=>dU (Nat.add m n) λs=>k (.ofNat s)) (λ_=>lM (a+b) k) b) (λ_=>lM (a+b) k) a
def Hv(a b:Int)(k:Int->Prop):Prop:=
 Int.rec (motive:=λ_=>Prop) (λm=>Int.rec (motive:=λ_=>Prop) (λn=>dG (ai0 n m) (dU (Nat.sub m n) λs=>k (.ofNat s)) (lM (a - b) k)) (λ_=>lM (a - b) k) b) (λ_=>lM (a - b) k) a
def Hw(n:Int)(k:Int->Prop):Prop:=
 Int.rec (motive:=λ_=>Prop) (λm=>dG (aiu m 9223372036854775808) (k (.ofNat m)) (lM (fX 3 n) k)) (λ_=>lM (fX 3 n) k) n
def AA(j:Nat)(n:Int)(k:Int->Prop):Prop:=dG (ah8 j 3) (Hw n k) (lM (fX j n) k)
def C5(a b:Int):Bool:=Int.rec (motive:=λ_=>Bool) (λm=>Int.rec (motive:=λ_=>Bool) (λn=>ah8 m n) (λ_=>false) b) (λm=>Int.rec (motive:=λ_=>Bool) (λ_=>false) (λn=>ah8 m n) b) a
def yn(a b:Int):Bool:=Int.rec (motive:=λ_=>Bool) (λm=>Int.rec (motive:=λ_=>Bool) (λn=>aiu m n) (λ_=>false) b) (λm=>Int.rec (motive:=λ_=>Bool) (λ_=>true) (λn=>aiu n m) b) a
def AB(b:Bool):Bool:=Bool.rec (motive:=λ_=>Bool) true false b
def oP(b:Bool)(k:AV->Prop):Prop:=Bool.rec (motive:=λ_=>Prop) (k (.bool false)) (k (.bool true)) b
abbrev AK:=Nat->Int->Int->(AV->Prop)->Prop
def C6:AK:=λj a b k=>Hu a b λs=>AA j s λs=>k (.int j s)
def C7:AK:=λj a b k=>Hv a b λs=>AA j s λs=>k (.int j s)
def qX(op:BinOp):AK:=λj a b k=>iI (fG op j a b) λv=>pO v k
def Hy:AK:=λ_ _ _ _=>False
def Pg:AK:=λ_ a b k=>oP (C5 a b) k
def Ph:AK:=λ_ a b k=>oP (AB (C5 a b)) k
def Pj:AK:=λ_ a b k=>oP (yn a b) k
def Pk:AK:=λ_ a b k=>oP (AB (yn b a)) k
def Pl:AK:=λ_ a b k=>oP (yn b a) k
def Pm:AK:=λ_ a b k=>oP (AB (yn a b)) k
def C8(op:BinOp):AK:=BinOp.rec (motive:=λ_=>AK) C6 C7 (qX .mul) (qX .quo) (qX .rem) (qX .and) (qX .or) (qX .xor) Hy Hy (qX .andNot) Pg Ph Pj Pk Pl Pm op
def C9(op:BinOp)(j:Nat)(x y:AV)(k:AV->Prop):Prop:=
 Hr x y λi a l b=>dG (lh (ah8 i j) (ah8 l j)) (C8 op j a b k) False
abbrev qY:=bY->Fr->ai->Prop
structure jr where
 exec:bm->Fr->ai->qY->Prop
 aB:List bD->Fr->ai->(Fr->ai->Prop)->Prop
 call:AV->List AV->ai->KV->Prop
abbrev OK:=jr->az AV->ai->KV->Prop
def gG(o:bJ):OK:=λ_ ac H k=>iI (aH o ac H) λp=>Prod.rec (motive:=λ_=>Prop) (λv H=>pO v λv=>k v H) p
def Pn(x:aJ):OK:=λ_ ac H k=>eO ac x λv=>k v H
def Po(ac:az AV)(H:ai)(k:KV)(a b:aJ)(c:AV):Prop:=match c with
  |.bool t=>dG t (eO ac a λv=>k v H) (eO ac b λv=>k v H)
  |_=>False
def Da(c a b:aJ):OK:=λ_ ac H k=>eO ac c (Po ac H k a b)
def Db(a:Nat)(x:aJ):OK:=λ_ ac H k=>eO ac x λv=>mL v.cells λl=>dG (vQ l) (sn H l (lN l) a λid H=>k (.aD id 0) H) False
def Dc(a:Nat)(b:List AV):OK:=λ_ _ H k=>sn H b (lN b) a λid H=>k (.aD id 0) H
def Dd(a len:Nat)(b:List AV)(dW:List (Nat×Nat×aJ)):OK:=λ_ ac H k=>
 iI (lJ ac (dY b len) dW) λl=>mL l λl=>dG (vQ l) (sn H l (lN l) a λid H=>k (.slice id 0 len len true) H) False
def Hz(off:Nat)(k:AV->Prop)(c:az AV)(n _e:Nat)(_rw:Bool)(_p:List ah)(_fz:Nat):Prop:=dG (aiu off n) (oN .ajS c off k) False
def HD(H:ai)(k:KV)(a:AV):Prop:=ub a λid off=>ua H id (Hz off λv=>k v H)
def De(a:aJ):OK:=λ_ ac H k=>eO ac a (HD H k)
def Df(n:Nat)(a:aJ):OK:=λ_ ac H k=>eO ac a λa=>ub a λid off=>Az H id off n λl=>k (.agg l) H
def Pp(n:Nat)(H:ai)(k:KV)(a:AV)(l:List AV):Prop:=ub a λid off=>dG (ah8 (lN l) n) (vR H id off l λH=>k .ajS H) False
def Dg(n:Nat)(a x:aJ):OK:=λ_ ac H k=>eO ac a λa=>eO ac x λv=>mL v.cells (Pp n H k a)
def Dh(op:BinOp)(j:Nat)(x y:aJ):OK:=λ_ ac H k=>eO ac x λx=>eO ac y λy=>C9 op j x y λv=>k v H
def Di(off:Nat)(x:aJ):OK:=λ_ ac H k=>eO ac x λx=>ub x λid o=>dU (Nat.add o off) λo=>k (.aD id o) H
def Pq(size:Nat)(H:ai)(k:KV)(x i:AV):Prop:=match x,i with
  |.slice id o len _ _,.int _ (.ofNat j)=>dG (aiu j len) (dU (Nat.add o (Nat.mul j size)) λo=>k (.aD id o) H) False
  |_,_=>False
def Dj(size:Nat)(x i:aJ):OK:=λ_ ac H k=>eO ac x λx=>eO ac i λi=>Pq size H k x i
def Dk:OK:=λ_ _ H k=>mM H (.map [] 0) λid H=>k (.map id) H
def HG(a bytes size:Nat)(b:List AV)(H:ai)(k:KV)(len cap:AV):Prop:=match len,cap with
  |.int 3 (.ofNat l),.int 3 (.ofNat c)=>
   dG (lh (ai0 l c) (lh (dT (c*bytes)) (dT c))) (mL (dY b c) λb=>sn H b (c*size) a λid H=>k (.slice id 0 l c true) H) False
  |_,_=>False
def Dl(a bytes size:Nat)(b:List AV)(len cap:aJ):OK:=λ_ ac H k=>eO ac len λlen=>eO ac cap λcap=>HG a bytes size b H k len cap
def HH(a bytes size:Nat)(b:List AV)(H:ai)(s:AV)(k:KV)(x:AV):Prop:=match x with
  |.int 3 (.ofNat n)=>dG (lh (dT (n*bytes)) (dT n)) (mL (dY b n) λl=>yl a bytes size H s n l k) False
  |_=>False
def Pr(a bytes size:Nat)(H:ai)(s:AV)(k:KV)(p:Nat×List AV):Prop:=Prod.rec (motive:=λ_=>Prop) (λn l=>dU n λn=>mL l λl=>yl a bytes size H s n l k) p
def Dm(b bytes size:Nat)(c:List AV)(a:Bool)(s x:aJ):OK:=λ_ ac H k=>eO ac s λs=>eO ac x λx=>
   dG a (HH b bytes size c H s k x) (iI (fY H size x) (Pr b bytes size H s k))
def Do(size:Nat)(H:ai)(k:KV)(d:AV)(n:Nat)(l:List AV):Prop:=match d with
  |.bh=>k (.int 3 (.ofNat 0)) H
  |.slice id off len _ _=>dU (min n len) λm=>dG (ah8 m 0) (k (.int 3 (.ofNat 0)) H)
     (mL (l.take (m*size)) λl=>vR H id off l λH=>k (.int 3 (.ofNat m)) H)
  |_=>False
def Dp(size:Nat)(d s:aJ):OK:=λ_ ac H k=>eO ac d λd=>eO ac s λs=>iI (fY H size s) λp=>Prod.rec (motive:=λ_=>Prop) (Do size H k d) p
def HI(H:ai)(k:KV)(x:AV):Prop:=match x with
  |.str s=>mM H (.ky s s 0) λid H=>k (.aD id 0) H
  |_=>False
def Dq(x:aJ):OK:=λ_ ac H k=>eO ac x (HI H k)
def HJ(H:ai)(k:KV)(x:AV):Prop:=match x with
  |.cL=>mM H (.mapIter none 0 [] 0) λid H=>k (.aD id 0) H
  |.map m=>yi H m λo=>match o with
   |.map _ a=>mM H (.mapIter (some m) a [] a) λid H=>k (.aD id 0) H
   |_=>False
  |_=>False
def Ds(x:aJ):OK:=λ_ ac H k=>eO ac x (HJ H k)
def HK(H:ai)(b:AV)(k:KV):Prop:=match qW H b with
  |some (cs,a)=>∀i,i<cs.length->match cs[i]? with
   |some c=>k (a c).1 (a c).2
   |none=>False
  |none=>False
def Pt(a:aJ):OK:=λ_ ac H k=>eO ac a λa=>HK H a k
def Pu(f:aJ)(args:List aJ):OK:=λa ac H k=>eO ac f λf=>Ax ac args λargs=>a.call f args H k
def Dt(l:List AV):Nat->(AV->Prop)->Prop:=ajM (motive:=λ_=>Nat->(AV->Prop)->Prop) (λ_ _=>False) (λv _ a n k=>Nat.rec (motive:=λ_=>Prop) (k v) (λn _=>a n k) n) l
def Pv(i:Nat)(H:ai)(k:KV)(x:AV):Prop:=match x with
  |.tuple l=>Dt l i λv=>k v H
  |_=>False
def Du(x:aJ)(i:Nat):OK:=λ_ ac H k=>eO ac x (Pv i H k)
def Pw(H:ai)(k:KV)(x:AV):Prop:=match x with
  |.aD id off=>k (.aD id off) H
  |.func f a b=>k (.func f a b) H
  |.yield l=>k (.yield l) H
  |.iface t v=>k (.iface t v) H
  |.map m=>k (.map m) H
  |.slice a b c d e=>k (.slice a b c d e) H
  |_=>False
def Dv(x:aJ):OK:=λ_ ac H k=>eO ac x (Pw H k)
def Px(H:ai)(k:KV)(x:AV):Prop:=match x with
  |.slice _ _ n _ _=>k (.int 3 (.ofNat n)) H
  |.bh=>k (.int 3 (.ofNat 0)) H
  |_=>False
def Dw(x:aJ):OK:=λ_ ac H k=>eO ac x (Px H k)
def vS(o:bJ):OK:=bJ.rec (motive:=λ_=>OK)
  Pn
  Da
  Db
  Dc
  (λe dW=>gG (.build e dW))
  Dd
  De
  Df
  Dg
  Dv
  Dh
  (λop x y=>gG (.shift op x y))
  (λop x y=>gG (.kr op x y))
  (λneg d x y=>gG (.eq neg d x y))
  (λop x=>gG (.unary op x))
  (λk x=>gG (.ku k x))
  (λx=>gG (.oJ x))
  (λt x=>gG (.mG t x))
  (λf first a=>gG (.lf f first a))
  Dk
  Dl
  (λc size x lo hi j=>gG (.gW c size x lo hi j))
  Di
  (λagg off size x=>gG (.part agg off size x))
  (λn size x i=>gG (.qS n size x i))
  Dj
  (λx i=>gG (.nH x i))
  (λkey zero ok m k=>gG (.lookup key zero ok m k))
  (λkey m k v=>gG (.jI key m k v))
  Dq
  (λg=>gG (.si g))
  Ds
  Pt
  (λg=>gG (.qT g))
  (gG .l6)
  (λt zero ok x=>gG (.typeAssert t zero ok x))
  Du
  (λx=>gG (.mI x))
  Dw
  (λx=>gG (.sj x))
  (λx=>gG (.cap x))
  Dm
  Dp
  (λe x=>gG (.ye e x))
  (λkey m k=>gG (.delete key m k))
  (λb l=>gG (.mJ b l))
  Pu o
def vT(j:bY)(x:Prop)(y:Nat->Prop)(z:Prop):Prop:=bY.rec (motive:=λ_=>Prop) x y z j
def yo(fr:Fr)(k:az AV->List ah->Option ah->Prop):Prop:=Fr.rec (motive:=λ_=>Prop) k fr
def Dx(v:AV)(t f:Prop):Prop:=match v with
 |.bool b=>dG b t f
 |_=>False
def AC(ac:az AV)(d:Option ah)(v:AV)(k:az AV->Prop):Prop:=
 Option.rec (motive:=λ_=>Prop) (k ac) (λp=>tY .ajS p v ac k) d
def HL(ac:az AV)(H:ai)(l:List gX)(x:Prop):Prop:=
 ajM (motive:=λ_=>Prop) x (λp l _=>dG (dX ac H (p::l)) x False) l
def Dy(ac:az AV)(g:Option (ah×Bool))(x y:Prop):Prop:=
 Option.rec (motive:=λ_=>Prop) x (λg=>dG (dZ ac (some g)) x (dG (j9 ac (some g)) y False)) g
def Dz(l:List AV):ah->az AV->(az AV->Prop)->Prop:=
 ajM (motive:=λ_=>ah->az AV->(az AV->Prop)->Prop) (λ_ t k=>k t) (λv _ a p t k=>tY .ajS p v t λt=>yh p λp=>a p t k) l
def yp(ac:az AV)(H:ai)(l:List gE):(List AV->Prop)->Prop:=
 ajM (motive:=λ_=>(List AV->Prop)->Prop) (λk=>k [])
   (λr _ b k=>gE.rec (motive:=λ_=>Prop) (λp=>tW .ajS p ac λv=>b λl=>k (v::l))
    (λp agg n=>tW .ajS p ac λa=>iI (gY H a n agg) λv=>pO v λv=>b λl=>k (v::l)) r) l
def DA(l:List AV)(k:AV->Prop):Prop:=ajM (motive:=λ_=>Prop) (k (.tuple [])) (λv m _=>ajM (motive:=λ_=>Prop) (k v) (λ_ _ _=>k (.tuple l)) m) l
def DB(H:ai)(l:List ah)(k:ai->Prop):Prop:=ajM (motive:=λ_=>Prop) (k H) (λi l _=>iI (iw H (i::l)) k) l
abbrev LK:=pI->bY->Nat->az AV->List ah->bm->bm->ah->Prop
def Py(k:LK)(o:bP):Prop:=
 bP.rec (motive:=λ_=>Prop) False (λ_ _ _ _ _ _=>False) (λ_ _=>False) (λ_=>False) (λ_ _ _=>False) k (λ_=>False) (λ_ _ _ _=>False) o
def qZ(H:ai)(id:ah)(k:LK):Prop:=yi H id (Py k)
def yq(st:pI)(ready busy AD:Prop):Prop:=pI.rec (motive:=λ_=>Prop) ready busy AD AD st
abbrev CK:=jr->Fr->ai->qY->Prop
def Pz:CK:=λ_ fr H K=>K .none fr H
def uc(l:List bD):CK:=λa fr H K=>a.aB l fr H (K .none)
def vU(a:jr)(b:bm)(K:qY)(j:bY)(fr:Fr)(H:ai):Prop:=vT j (a.exec b fr H K) (λi=>K (.exit i) fr H) (K .ret fr H)
def PA(a b:bm):CK:=λc fr H K=>c.exec a fr H (vU c b K)
def PB(c:aJ)(a b:bm):CK:=λd fr H K=>yo fr λac _ _=>eO ac c λv=>Dx v (d.exec a fr H K) (d.exec b fr H K)
def DC(id:Nat)(K:qY)(j:bY)(fr:Fr)(H:ai):Prop:=vT j (K .none fr H) (λi=>dG (ah8 i id) (K .none fr H) (K (.exit i) fr H)) (K .ret fr H)
def PC(id:Nat)(b:bm):CK:=λa fr H K=>a.exec b fr H (DC id K)
def PD(b:bm):CK:=λa fr H K=>a.exec b fr H (vU a (.loop b) K)
def DD(fr:Fr)(l:ah)(K:qY)(H':ai)(bS:bY)(fn:Nat)(ac:az AV)(b:List ah)(as bd:bm)(d:ah):Prop:=
 oO H' l (.loop .exhausted bS fn ac b as bd d) λa=>K bS fr a
def vV(b:jr)(ac:az AV)(params:List ah)(assign body:bm)(fv:AV)(K:qY)(fr:Fr)(H:ai)(d:ah):Prop:=
 mM H (.loop .ready .none 0 ac params assign body d) λl H=>
  b.call fv [.yield l] H λ_ H'=>qZ H' l λst bS fn ac a as bd d=>
   yq st (DD fr l K H' bS fn ac a as bd d) False (DD fr l K H' bS fn ac a as bd d)
def PE(f:aJ)(params:List ah)(assign body:bm):CK:=λa fr H K=>yo fr λac bA bz=>eO ac f λfv=>
 Option.rec (motive:=λ_=>Prop) (mM H (.deferred false) λm H=>vV a ac params assign body fv K ⟨ac,m::bA,bz⟩ H m)
   (λl=>qZ H l λ_ _ _ _ _ _ _ d=>vV a ac params assign body fv K fr H d) bz
def PF(id:Nat):CK:=λ_ fr H K=>K (.exit id) fr H
def PG:CK:=λ_ fr H K=>K .ret fr H
def AF(fr:Fr)(H:ai)(K:qY)(g:az AV->ai->Option (az AV×ai)):Prop:=
 yo fr λac bA bz=>iI (g ac H) λp=>Prod.rec (motive:=λ_=>Prop) (λac H=>K .none ⟨ac,bA,bz⟩ H) p
def PH(ab:az aV)(t:Nat):CK:=λ_ fr H K=>oN .none ab t λg=>aV.rec (motive:=λ_=>Prop) False (λ_ _ _=>False) (λ_=>False) (AF fr H K) g
def PJ(ab:az aV)(c:bm):CK:=bm.rec (motive:=λ_=>CK) Pz uc (λa b _ _=>PA a b) (λc a b _ _=>PB c a b) (λid b _=>PC id b) (λb _=>PD b)
  (λf d a b _ _=>PE f d a b) PF PG (PH ab) c
def after(a:jr)(l:List bD)(K:Fr->ai->Prop)(dst:Option ah)(re:List gX)(ac:az AV)(bA:List ah)(bz:Option ah)(v:AV)(H:ai):Prop:=
 AC ac dst v λac=>HL ac H re (a.aB l ⟨ac,bA,bz⟩ H K)
def ix(a:jr)(op:bJ)(ac:az AV)(k:KV)(b:ai×List (ah×bP)):Prop:=
 Prod.rec (motive:=λ_=>Prop) (λH s=>vS op a ac H λv H=>k v (di H s)) b
def DE(a:jr)(op:bJ)(ac:az AV)(H:ai)(iu:List ah)(k:KV):Prop:=
 ajM (motive:=λ_=>Prop) (vS op a ac H k) (λp l _=>ix a op ac k (dF ac H (p::l))) iu
def PK(a:jr)(l:List bD)(H:ai)(K:Fr->ai->Prop)(dst:Option ah)(op:bJ)(guard:Option (ah×Bool))(iu:List ah)(re:List gX)(ac:az AV)(bA:List ah)(bz:Option ah):Prop:=
 Dy ac guard (DE a op ac H iu (after a l K dst re ac bA bz)) (AC ac dst .ajS λac=>a.aB l ⟨ac,bA,bz⟩ H K)
def PL(a:jr)(l:List bD)(fr:Fr)(H:ai)(K:Fr->ai->Prop)(dst:Option ah)(op:bJ)(guard:Option (ah×Bool))(iu:List ah)(re:List gX):Prop:=
 yo fr (PK a l H K dst op guard iu re)
def PM(a:jr)(fr:Fr)(H:ai)(K:Fr->ai->Prop)(o:bD)(l:List bD)(_:Prop):Prop:=bD.rec (motive:=λ_=>Prop) (PL a l fr H K) o
def PN(a:jr)(l:List bD)(fr:Fr)(H:ai)(K:Fr->ai->Prop):Prop:=ajM (motive:=λ_=>Prop) (K fr H) (PM a fr H K) l
def DF(results:List gE)(K:KV)(fr:Fr)(H:ai):Prop:=yo fr λac bA _=>DB H bA λH=>yp ac H results λl=>DA l λv=>K v H
def HM(results:List gE)(K:KV)(j:bY)(fr:Fr)(H:ai):Prop:=vT j (DF results K fr H) (λ_=>False) (DF results K fr H)
def AG(a:jr)(H:ai)(K:KV)(all:List AV)(b:Nat)(results:List gE)(body:bm):Prop:=
 dG (ai0 (lN all) b) (Dz all .xH .aR λac=>a.exec body ⟨ac,[],none⟩ H (HM results K)) False
def AH(H:ai)(K:KV)(all:List AV)(g:List AV->ai->Option (AV×ai)):Prop:=
 iI (g all H) λp=>Prod.rec (motive:=λ_=>Prop) (λv H=>pO v λv=>K v H) p
def PO(ab:az aV)(b:jr)(args:List AV)(H:ai)(K:KV)(f:Nat)(first a:List AV):Prop:=
 oN .none ab f λg=>mL (first++args++a) λall=>aV.rec (motive:=λ_=>Prop) False (AG b H K all) (AH H K all) (λ_=>False) g
def DG(l:ah)(K:KV)(j:bY)(_:Fr)(H:ai):Prop:=
 qZ H l λ_ _ fn ac a as bd d=>
  vT j (oO H l (.loop .ready .none fn ac a as bd d) λH=>K (.bool true) H)
    (λ_=>oO H l (.loop .done j fn ac a as bd d) λH=>K (.bool false) H)
    (oO H l (.loop .done j fn ac a as bd d) λH=>K (.bool false) H)
def HN(b:jr)(l:ah)(a:bm)(K:KV)(fr:Fr)(H:ai):Prop:=
 qZ H l λst bS fn ac c as bd d=>yq st
   (oO H l (.loop .busy bS fn ac c as bd d) λH=>b.exec a fr H (DG l K)) False False
def yr(b:jr)(l:ah)(a:bm)(K:KV)(j:bY)(fr:Fr)(H:ai):Prop:=vT j (HN b l a K fr H) (λ_=>False) False
def DH(a:jr)(args:List AV)(H:ai)(K:KV)(l:ah):Prop:=
 qZ H l λst _ _ ac b as bd _=>yq st
   (dG (ah8 (lN args) (lN b)) (a.exec as ⟨l7 b args ac,[],some l⟩ H (yr a l bd K)) False) False False
def PP(ab:az aV)(b:jr)(f:AV)(args:List AV)(H:ai)(K:KV):Prop:=
 match f with
 |.func f first a=>PO ab b args H K f first a
 |.yield l=>DH b args H K l
 |_=>False
def dQ(ab:az aV)(n:Nat):jr:=Nat.rec (motive:=λ_=>jr)
  ⟨λ_ _ _ _=>False,λ_ _ _ _=>False,λ_ _ _ _=>False⟩
  (λ_ a=>⟨λc fr H K=>PJ ab c a fr H K,PN a,PP ab a⟩) n
end
end Go.al.K
end
