/- A part. No conditions. -/
import Derived.Test.YtodnahjlheaolaaGreatDoorA00
set_option linter.all false
open List renaming rec->ai2
open Nat renaming beq->ahr,blt->ahO,ble->aih
noncomputable section
namespace Go.al.K
variable{B:Type}
abbrev KV:=AV->ai->Prop
def dV(n:Nat)(k:Nat->Prop):Prop:=Nat.rec (motive:=λ_=>Prop) (k Nat.zero) (λm _=>k (Nat.succ m)) n
def lG(n:Int)(k:Int->Prop):Prop:=
 Int.rec (motive:=λ_=>Prop) (λm=>dV m λm=>k (.ofNat m)) (λm=>dV m λm=>k (.negSucc m)) n
def o0(p:ah):(ah->Prop)->Prop:=
 ah.rec (motive:=λ_=>(ah->Prop)->Prop) (λk=>k .xH) (λ_ a k=>a λp=>k (.xO p)) (λ_ a k=>a λp=>k (.xI p)) p
def yI(p:ah):(ah->Prop)->Prop:=
 ah.rec (motive:=λ_=>(ah->Prop)->Prop) (λk=>k (.xO .xH)) (λp _ k=>k (.xI p)) (λ_ a k=>a λp=>k (.xO p)) p
def dG(a:Bool)(x y:Prop):Prop:=Bool.rec (motive:=λ_=>Prop) y x a
def we(a:Bool)(k:Bool->Prop):Prop:=Bool.rec (motive:=λ_=>Prop) (k false) (k true) a
def ue(d:B)(p:ah):az B->(B->Prop)->Prop:=ah.rec (motive:=λ_=>az B->(B->Prop)->Prop)
  (λt k=>az.rec (motive:=λ_=>Prop) (k d) (λ_ v _ _ _=>k v) t)
  (λ_ a t k=>az.rec (motive:=λ_=>Prop) (k d) (λl _ _ _ _=>a l k) t)
  (λ_ a t k=>az.rec (motive:=λ_=>Prop) (k d) (λ_ _ r _ _=>a r k) t) p
def uf(d:B)(p:ah):B->az B->(az B->Prop)->Prop:=ah.rec (motive:=λ_=>B->az B->(az B->Prop)->Prop)
  (λv t k=>az.rec (motive:=λ_=>Prop) (k (.node .ch v .ch)) (λl _ r _ _=>k (.node l v r)) t)
  (λ_ a v t k=>az.rec (motive:=λ_=>Prop) (a v .ch λl=>k (.node l d .ch)) (λl w r _ _=>a v l λl=>k (.node l w r)) t)
  (λ_ a v t k=>az.rec (motive:=λ_=>Prop) (a v .ch λr=>k (.node .ch d r)) (λl w r _ _=>a v r λr=>k (.node l w r)) t) p
def pa(d:B)(t:az B):Nat->(B->Prop)->Prop:=az.rec (motive:=λ_=>Nat->(B->Prop)->Prop)
  (λ_ k=>k d)
  (λ_ v _ a c n k=>Nat.rec (motive:=λ_=>Prop) (k v) (λm _=>dG (ahr (Nat.mod m 2) 0) (a (Nat.div m 2) k) (c (Nat.div m 2) k)) n) t
def CX(d:B)(x:B)(t:az B)(k:az B->Prop):Prop:=az.rec (motive:=λ_=>Prop) (k (.node .ch x .ch)) (λl _ r _ _=>k (.node l x r)) t
def lK(d:B)(a:Nat->B->az B->(az B->Prop)->Prop)(m:Nat)(x:B)(t:az B)(k:az B->Prop):Prop:=
 az.rec (motive:=λ_=>Prop) (a m x .ch λl=>k (.node l d .ch)) (λl w r _ _=>a m x l λl=>k (.node l w r)) t
def rK(d:B)(a:Nat->B->az B->(az B->Prop)->Prop)(m:Nat)(x:B)(t:az B)(k:az B->Prop):Prop:=
 az.rec (motive:=λ_=>Prop) (a m x .ch λr=>k (.node .ch d r)) (λl w r _ _=>a m x r λr=>k (.node l w r)) t
def ug(d:B)(f:Nat):Nat->B->az B->(az B->Prop)->Prop:=Nat.rec (motive:=λ_=>Nat->B->az B->(az B->Prop)->Prop)
  (λn x t k=>Nat.rec (motive:=λ_=>Prop) (CX d x t k) (λ_ _=>k t) n)
  (λ_ a n x t k=>Nat.rec (motive:=λ_=>Prop) (CX d x t k) (λm _=>dG (ahr (Nat.mod m 2) 0) (lK d a (Nat.div m 2) x t k) (rK d a (Nat.div m 2) x t k)) n) f
def AM(l:List Nat):(List Nat->Prop)->Prop:=ai2 (motive:=λ_=>(List Nat->Prop)->Prop) (λk=>k []) (λn _ a k=>dV n λn=>a λl=>k (n::l)) l
def qh(v:AV):(AV->Prop)->Prop:=
 AV.rec (motive_1:=λ_=>(AV->Prop)->Prop) (motive_2:=λ_=>(List AV->Prop)->Prop)
   (λ_ c k=>c λl=>k (.tuple l))
   (λ_ c k=>c λl=>k (.agg l))
   (λi k=>we i λi=>k (.bool i))
   (λj n k=>dV j λj=>lG n λn=>k (.int j n))
   (λs k=>AM s λs=>k (.str s))
   (λid off k=>o0 id λid=>dV off λoff=>k (.aD id off))
   (λk=>k .j5)
   (λid off len cap ex k=>o0 id λid=>dV off λoff=>dV len λlen=>dV cap λcap=>we ex λex=>k (.slice id off len cap ex))
   (λk=>k .bj)
   (λid k=>o0 id λid=>k (.map id))
   (λk=>k .cP)
   (λf _ _ d e k=>dV f λf=>d λa=>e λi=>k (.func f a i))
   (λid k=>o0 id λid=>k (.yield id))
   (λk=>k .nilFunc)
   (λt _ c k=>dV t λt=>c λv=>k (.iface t v))
   (λk=>k .nilIface)
   (λk=>k .bQ)
   (λk=>k [])
   (λ_ _ g h k=>g λv=>h λl=>k (v::l)) v
def mM(l:List AV):(List AV->Prop)->Prop:=ai2 (motive:=λ_=>(List AV->Prop)->Prop) (λk=>k []) (λv _ a k=>qh v λv=>a λl=>k (v::l)) l
def eO(af:az AV)(x:aJ)(k:AV->Prop):Prop:=aJ.rec (motive:=λ_=>Prop) (λp=>ue .ai8 p af k) k x
def AN(af:az AV)(l:List aJ):(List AV->Prop)->Prop:=
 ai2 (motive:=λ_=>(List AV->Prop)->Prop) (λk=>k []) (λx _ a k=>eO af x λv=>a λl=>k (v::l)) l
def iJ(o:Option B)(k:B->Prop):Prop:=Option.rec (motive:=λ_=>Prop) False k o
def yJ(H:ai)(id:ah)(k:bR->Prop):Prop:=ai.rec (motive:=λ_=>Prop) (λt _=>ue .none id t k) H
def pb(H:ai)(id:ah)(o:bR)(k:ai->Prop):Prop:=ai.rec (motive:=λ_=>Prop) (λt n=>uf .none id o t λt=>k ⟨t,n⟩) H
def mN(H:ai)(o:bR)(k:ah->ai->Prop):Prop:=
 ai.rec (motive:=λ_=>Prop) (λt n=>uf .none n o t λt=>yI n λm=>k n ⟨t,m⟩) H
def CY(l:List ah):ai->(ai->Prop)->Prop:=
 ai2 (motive:=λ_=>ai->(ai->Prop)->Prop) (λH k=>k H) (λi _ a H k=>pb H i .none λH=>a H k) l
def OA(k:az AV->Nat->Nat->Bool->List ah->Nat->Prop)(o:bR):Prop:=
 bR.rec (motive:=λ_=>Prop) False k (λ_ _=>False) (λ_=>False) (λ_ _ _=>False) (λ_ _ _ _ _ _ _ _=>False) (λ_=>False) (λ_ _ _ _=>False) o
def uh(H:ai)(id:ah)(k:az AV->Nat->Nat->Bool->List ah->Nat->Prop):Prop:=yJ H id (OA k)
def AO(c:az AV)(n m:Nat):Nat->(List AV->Prop)->Prop:=
 Nat.rec (motive:=λ_=>Nat->(List AV->Prop)->Prop) (λ_ k=>k [])
   (λ_ a off k=>dG (ahO off n) (dV off λoff=>pa .ai8 c off λv=>a (Nat.succ off) λl=>k (v::l)) False) m
def yK(l:List AV):az AV->Nat->(az AV->Prop)->Prop:=
 ai2 (motive:=λ_=>az AV->Nat->(az AV->Prop)->Prop) (λc _ k=>k c) (λv _ a c off k=>dV off λoff=>ug .ai8 off off v c λc=>a c (Nat.succ off) k) l
def AP(H:ai)(id:ah)(off m:Nat)(k:List AV->Prop):Prop:=
 uh H id λc n _ _ _ _=>AO c n m off k
def lf(a c:Bool):Bool:=Bool.rec (motive:=λ_=>Bool) false c a
def wi(l:List AV):Bool:=ai2 (motive:=λ_=>Bool) true (λv _ a=>lf v.cY a) l
def lH(l:List B):Nat:=ai2 (motive:=λ_=>Nat) Nat.zero (λ_ _ a=>Nat.succ a) l
def CZ(H:ai)(id:ah)(off:Nat)(l:List AV)(k:ai->Prop)(c:az AV)(n e:Nat)(rw:Bool)(aK:List ah)(fz:Nat):Prop:=
 dG (lf rw (lf (aih fz off) (lf (aih (Nat.add off (lH l)) n) (wi l))))
     (CY aK H λH=>yK l c off λc=>pb H id (.cells c n e true [] fz) k) False
def wl(H:ai)(id:ah)(off:Nat)(l:List AV)(k:ai->Prop):Prop:=uh H id (CZ H id off l k)
def ui(v:AV)(k:ah->Nat->Prop):Prop:=
 match v with
 |.aD id off=>k id off
 |_=>False
def sB(H:ai)(l:List AV)(n a:Nat)(k:ah->ai->Prop):Prop:=
 yK l .ch 0 λc=>dV n λn=>mN H (.cells c n a true [] 0) k
def C1(a bytes size:Nat)(H:ai)(n:Nat)(l:List AV)(k:KV):Prop:=
 dG (ahr n 0) (k .bj H) (dG (lf (dU (n*bytes)) (dU n)) (sB H l (n*size) a λid H=>k (.slice id 0 n n false) H) False)
def Hj(size:Nat)(H:ai)(n:Nat)(l:List AV)(k:KV)(id:ah)(off len cap:Nat)(exact:Bool)(a:Nat):Prop:=
 dG (ahr n 0) (k (.slice id off a cap exact) H)
   (dV (Nat.add off (Nat.mul len size)) λbq=>wl H id bq l λH=>k (.slice id off a cap exact) H)
def Hk(d size:Nat)(H:ai)(k:KV)(id:ah)(off cap:Nat)(a:Nat)(all:List AV)(c:az AV)(m e:Nat)(rw:Bool)(aK:List ah)(fz:Nat):Prop:=
 dG (lf rw (lf (ahr (Nat.add off (Nat.mul cap size)) m) (lf (ahr e d) (aih fz m))))
   (pb H id (.cells c m e false aK fz) λH=>
   yK all .ch 0 λc=>dV (a*size) λf=>dV (fz - off) λfz=>mN H (.cells c f d true (id::aK) fz) λid H=>k (.slice id 0 a a false) H)
   False
def C2(d size:Nat)(H:ai)(l:List AV)(k:KV)(id:ah)(off len cap:Nat)(exact:Bool)(a:Nat)(c:az AV)(m e:Nat)(rw:Bool)(aK:List ah)(fz:Nat):Prop:=
 AO c m (Nat.mul len size) off λcI=>mM (cI++l) λall=>
  dG exact (sB H all (a*size) d λid H=>k (.slice id 0 a a false) H) (dG (ahr len cap) (Hk d size H k id off cap a all c m e rw aK fz) False)
def C3(c bytes size:Nat)(H:ai)(n:Nat)(l:List AV)(k:KV)(id:ah)(off len cap:Nat)(exact:Bool):Prop:=
 dV (Nat.add len n) λa=>dG (aih a cap) (Hj size H n l k id off len cap exact a)
   (dG (lf (dU (a*bytes)) (dU a)) (uh H id (C2 c size H l k id off len cap exact a)) False)
def yL(a bytes size:Nat)(H:ai)(s:AV)(n:Nat)(l:List AV)(k:KV):Prop:=
 dG (wi l)
   (match s with
  |.bj=>C1 a bytes size H n l k
  |.slice id off len cap exact=>C3 a bytes size H n l k id off len cap exact
  |_=>False)
   False
def Hl(x y:AV)(k:Nat->Int->Nat->Int->Prop):Prop:=
 match x,y with
 |.int i a,.int j c=>k i a j c
 |_,_=>False
def Hm(a c:Int)(k:Int->Prop):Prop:=
 Int.rec (motive:=λ_=>Prop) (λm=>Int.rec (motive:=λ_=>Prop) (λn=>dV (Nat.add m n) λs=>k (.ofNat s)) (λ_=>lG (a+c) k) c) (λ_=>lG (a+c) k) a
def Hn(a c:Int)(k:Int->Prop):Prop:=
 Int.rec (motive:=λ_=>Prop) (λm=>Int.rec (motive:=λ_=>Prop) (λn=>dG (aih n m) (dV (Nat.sub m n) λs=>k (.ofNat s)) (lG (a - c) k)) (λ_=>lG (a - c) k) c) (λ_=>lG (a - c) k) a
def Ho(n:Int)(k:Int->Prop):Prop:=
 Int.rec (motive:=λ_=>Prop) (λm=>dG (ahO m 9223372036854775808) (k (.ofNat m)) (lG (gf 3 n) k)) (λ_=>lG (gf 3 n) k) n
def AQ(j:Nat)(n:Int)(k:Int->Prop):Prop:=dG (ahr j 3) (Ho n k) (lG (gf j n) k)
def C4(a c:Int):Bool:=Int.rec (motive:=λ_=>Bool) (λm=>Int.rec (motive:=λ_=>Bool) (λn=>ahr m n) (λ_=>false) c) (λm=>Int.rec (motive:=λ_=>Bool) (λ_=>false) (λn=>ahr m n) c) a
def yM(a c:Int):Bool:=Int.rec (motive:=λ_=>Bool) (λm=>Int.rec (motive:=λ_=>Bool) (λn=>ahO m n) (λ_=>false) c) (λm=>Int.rec (motive:=λ_=>Bool) (λ_=>true) (λn=>ahO n m) c) a
def AR(a:Bool):Bool:=Bool.rec (motive:=λ_=>Bool) true false a
def pc(a:Bool)(k:AV->Prop):Prop:=Bool.rec (motive:=λ_=>Prop) (k (.bool false)) (k (.bool true)) a
abbrev AK:=Nat->Int->Int->(AV->Prop)->Prop
def C5:AK:=λj a c k=>Hm a c λs=>AQ j s λs=>k (.int j s)
def C6:AK:=λj a c k=>Hn a c λs=>AQ j s λs=>k (.int j s)
def rp(op:BinOp):AK:=λj a c k=>iJ (fO op j a c) λv=>qh v k
def Hp:AK:=λ_ _ _ _=>False
def OB:AK:=λ_ a c k=>pc (C4 a c) k
def OC:AK:=λ_ a c k=>pc (AR (C4 a c)) k
def OD:AK:=λ_ a c k=>pc (yM a c) k
def OE:AK:=λ_ a c k=>pc (AR (yM c a)) k
def OF:AK:=λ_ a c k=>pc (yM c a) k
def OG:AK:=λ_ a c k=>pc (AR (yM a c)) k
def C7(op:BinOp):AK:=BinOp.rec (motive:=λ_=>AK) C5 C6 (rp .mul) (rp .quo) (rp .rem) (rp .and) (rp .or) (rp .xor) Hp Hp (rp .andNot) OB OC OD OE OF OG op
def C8(op:BinOp)(j:Nat)(x y:AV)(k:AV->Prop):Prop:=
 Hl x y λi a l c=>dG (lf (ahr i j) (ahr l j)) (C7 op j a c k) False
abbrev rq:=cC->Fr->ai->Prop
structure jB where
 exec:bw->Fr->ai->rq->Prop
 aA:List bD->Fr->ai->(Fr->ai->Prop)->Prop
 call:AV->List AV->ai->KV->Prop
abbrev OK:=jB->az AV->ai->KV->Prop
def gG(o:bJ):OK:=λ_ af H k=>iJ (aH o af H) λp=>Prod.rec (motive:=λ_=>Prop) (λv H=>qh v λv=>k v H) p
def OH(x:aJ):OK:=λ_ af H k=>eO af x λv=>k v H
def OI(af:az AV)(H:ai)(k:KV)(a d:aJ)(c:AV):Prop:=match c with
  |.bool t=>dG t (eO af a λv=>k v H) (eO af d λv=>k v H)
  |_=>False
def C9(c a d:aJ):OK:=λ_ af H k=>eO af c (OI af H k a d)
def Da(a:Nat)(x:aJ):OK:=λ_ af H k=>eO af x λv=>mM v.cells λl=>dG (wi l) (sB H l (lH l) a λid H=>k (.aD id 0) H) False
def Db(a:Nat)(c:List AV):OK:=λ_ _ H k=>sB H c (lH c) a λid H=>k (.aD id 0) H
def Dc(a len:Nat)(c:List AV)(dX:List (Nat×Nat×aJ)):OK:=λ_ af H k=>
 iJ (lE af (dZ c len) dX) λl=>mM l λl=>dG (wi l) (sB H l (lH l) a λid H=>k (.slice id 0 len len true) H) False
def Hq(off:Nat)(k:AV->Prop)(c:az AV)(n _e:Nat)(_rw:Bool)(_p:List ah)(_fz:Nat):Prop:=dG (ahO off n) (pa .ai8 c off k) False
def Hr(H:ai)(k:KV)(a:AV):Prop:=ui a λid off=>uh H id (Hq off λv=>k v H)
def Dd(a:aJ):OK:=λ_ af H k=>eO af a (Hr H k)
def De(n:Nat)(a:aJ):OK:=λ_ af H k=>eO af a λa=>ui a λid off=>AP H id off n λl=>k (.agg l) H
def OJ(n:Nat)(H:ai)(k:KV)(a:AV)(l:List AV):Prop:=ui a λid off=>dG (ahr (lH l) n) (wl H id off l λH=>k .ai8 H) False
def Df(n:Nat)(a x:aJ):OK:=λ_ af H k=>eO af a λa=>eO af x λv=>mM v.cells (OJ n H k a)
def Dg(op:BinOp)(j:Nat)(x y:aJ):OK:=λ_ af H k=>eO af x λx=>eO af y λy=>C8 op j x y λv=>k v H
def Dh(off:Nat)(x:aJ):OK:=λ_ af H k=>eO af x λx=>ui x λid o=>dV (Nat.add o off) λo=>k (.aD id o) H
def OL(size:Nat)(H:ai)(k:KV)(x i:AV):Prop:=match x,i with
  |.slice id o len _ _,.int _ (.ofNat j)=>dG (ahO j len) (dV (Nat.add o (Nat.mul j size)) λo=>k (.aD id o) H) False
  |_,_=>False
def Di(size:Nat)(x i:aJ):OK:=λ_ af H k=>eO af x λx=>eO af i λi=>OL size H k x i
def Dj:OK:=λ_ _ H k=>mN H (.map [] 0) λid H=>k (.map id) H
def Hu(a bytes size:Nat)(d:List AV)(H:ai)(k:KV)(len cap:AV):Prop:=match len,cap with
  |.int 3 (.ofNat l),.int 3 (.ofNat c)=>
   dG (lf (aih l c) (lf (dU (c*bytes)) (dU c))) (mM (dZ d c) λd=>sB H d (c*size) a λid H=>k (.slice id 0 l c true) H) False
  |_,_=>False
def Dk(a bytes size:Nat)(c:List AV)(len cap:aJ):OK:=λ_ af H k=>eO af len λlen=>eO af cap λcap=>Hu a bytes size c H k len cap
def Hv(a bytes size:Nat)(c:List AV)(H:ai)(s:AV)(k:KV)(x:AV):Prop:=match x with
  |.int 3 (.ofNat n)=>dG (lf (dU (n*bytes)) (dU n)) (mM (dZ c n) λl=>yL a bytes size H s n l k) False
  |_=>False
def OM(a bytes size:Nat)(H:ai)(s:AV)(k:KV)(p:Nat×List AV):Prop:=Prod.rec (motive:=λ_=>Prop) (λn l=>dV n λn=>mM l λl=>yL a bytes size H s n l k) p
def Dl(c bytes size:Nat)(d:List AV)(a:Bool)(s x:aJ):OK:=λ_ af H k=>eO af s λs=>eO af x λx=>
   dG a (Hv c bytes size d H s k x) (iJ (gh H size x) (OM c bytes size H s k))
def Dm(size:Nat)(H:ai)(k:KV)(d:AV)(n:Nat)(l:List AV):Prop:=match d with
  |.bj=>k (.int 3 (.ofNat 0)) H
  |.slice id off len _ _=>dV (min n len) λm=>dG (ahr m 0) (k (.int 3 (.ofNat 0)) H)
     (mM (l.take (m*size)) λl=>wl H id off l λH=>k (.int 3 (.ofNat m)) H)
  |_=>False
def Do(size:Nat)(d s:aJ):OK:=λ_ af H k=>eO af d λd=>eO af s λs=>iJ (gh H size s) λp=>Prod.rec (motive:=λ_=>Prop) (Dm size H k d) p
def Hw(H:ai)(k:KV)(x:AV):Prop:=match x with
  |.str s=>mN H (.kz s s 0) λid H=>k (.aD id 0) H
  |_=>False
def Dp(x:aJ):OK:=λ_ af H k=>eO af x (Hw H k)
def Hy(H:ai)(k:KV)(x:AV):Prop:=match x with
  |.cP=>mN H (.mapIter none 0 [] 0) λid H=>k (.aD id 0) H
  |.map m=>yJ H m λo=>match o with
   |.map _ a=>mN H (.mapIter (some m) a [] a) λid H=>k (.aD id 0) H
   |_=>False
  |_=>False
def Dq(x:aJ):OK:=λ_ af H k=>eO af x (Hy H k)
def Hz(H:ai)(d:AV)(k:KV):Prop:=match rm H d with
  |some (cs,a)=>∀i,i<cs.length->match cs[i]? with
   |some c=>k (a c).1 (a c).2
   |none=>False
  |none=>False
def ON(a:aJ):OK:=λ_ af H k=>eO af a λa=>Hz H a k
def OO(f:aJ)(args:List aJ):OK:=λa af H k=>eO af f λf=>AN af args λargs=>a.call f args H k
def Ds(l:List AV):Nat->(AV->Prop)->Prop:=ai2 (motive:=λ_=>Nat->(AV->Prop)->Prop) (λ_ _=>False) (λv _ a n k=>Nat.rec (motive:=λ_=>Prop) (k v) (λn _=>a n k) n) l
def OP(i:Nat)(H:ai)(k:KV)(x:AV):Prop:=match x with
  |.tuple l=>Ds l i λv=>k v H
  |_=>False
def Dt(x:aJ)(i:Nat):OK:=λ_ af H k=>eO af x (OP i H k)
def OQ(H:ai)(k:KV)(x:AV):Prop:=match x with
  |.aD id off=>k (.aD id off) H
  |.func f a g=>k (.func f a g) H
  |.yield l=>k (.yield l) H
  |.iface t v=>k (.iface t v) H
  |.map m=>k (.map m) H
  |.slice a g c d e=>k (.slice a g c d e) H
  |_=>False
def Du(x:aJ):OK:=λ_ af H k=>eO af x (OQ H k)
def OS(H:ai)(k:KV)(x:AV):Prop:=match x with
  |.slice _ _ n _ _=>k (.int 3 (.ofNat n)) H
  |.bj=>k (.int 3 (.ofNat 0)) H
  |_=>False
def Dv(x:aJ):OK:=λ_ af H k=>eO af x (OS H k)
def wm(o:bJ):OK:=bJ.rec (motive:=λ_=>OK)
  OH
  C9
  Da
  Db
  (λg dX=>gG (.build g dX))
  Dc
  Dd
  De
  Df
  Du
  Dg
  (λop x y=>gG (.shift op x y))
  (λop x y=>gG (.kw op x y))
  (λneg d x y=>gG (.eq neg d x y))
  (λop x=>gG (.unary op x))
  (λk x=>gG (.kx k x))
  (λx=>gG (.oX x))
  (λt x=>gG (.mI t x))
  (λf first a=>gG (.k6 f first a))
  Dj
  Dk
  (λe size x lo hi j=>gG (.gV e size x lo hi j))
  Dh
  (λagg off size x=>gG (.part agg off size x))
  (λn size x i=>gG (.rh n size x i))
  Di
  (λx i=>gG (.nH x i))
  (λkey zero ok m k=>gG (.lookup key zero ok m k))
  (λkey m k v=>gG (.jK key m k v))
  Dp
  (λh=>gG (.sA h))
  Dq
  ON
  (λh=>gG (.ri h))
  (gG .lY)
  (λt zero ok x=>gG (.typeAssert t zero ok x))
  Dt
  (λx=>gG (.mK x))
  Dv
  (λx=>gG (.uc x))
  (λx=>gG (.cap x))
  Dl
  Do
  (λg x=>gG (.yF g x))
  (λkey m k=>gG (.delete key m k))
  (λc l=>gG (.oY c l))
  OO o
def wn(j:cC)(x:Prop)(y:Nat->Prop)(z:Prop):Prop:=cC.rec (motive:=λ_=>Prop) x y z j
def yN(fr:Fr)(k:az AV->List ah->Option ah->Prop):Prop:=Fr.rec (motive:=λ_=>Prop) k fr
def Dw(v:AV)(t f:Prop):Prop:=match v with
 |.bool a=>dG a t f
 |_=>False
def AS(af:az AV)(d:Option ah)(v:AV)(k:az AV->Prop):Prop:=
 Option.rec (motive:=λ_=>Prop) (k af) (λp=>uf .ai8 p v af k) d
def HD(af:az AV)(H:ai)(l:List gN)(x:Prop):Prop:=
 ai2 (motive:=λ_=>Prop) x (λp l _=>dG (dQ af H (p::l)) x False) l
def Dx(af:az AV)(g:Option (ah×Bool))(x y:Prop):Prop:=
 Option.rec (motive:=λ_=>Prop) x (λg=>dG (d8 af (some g)) x (dG (ka af (some g)) y False)) g
def Dy(l:List AV):ah->az AV->(az AV->Prop)->Prop:=
 ai2 (motive:=λ_=>ah->az AV->(az AV->Prop)->Prop) (λ_ t k=>k t) (λv _ a p t k=>uf .ai8 p v t λt=>yI p λp=>a p t k) l
def yO(af:az AV)(H:ai)(l:List gO):(List AV->Prop)->Prop:=
 ai2 (motive:=λ_=>(List AV->Prop)->Prop) (λk=>k [])
   (λr _ c k=>gO.rec (motive:=λ_=>Prop) (λp=>ue .ai8 p af λv=>c λl=>k (v::l))
    (λp agg n=>ue .ai8 p af λa=>iJ (gW H a n agg) λv=>qh v λv=>c λl=>k (v::l)) r) l
def Dz(l:List AV)(k:AV->Prop):Prop:=ai2 (motive:=λ_=>Prop) (k (.tuple [])) (λv m _=>ai2 (motive:=λ_=>Prop) (k v) (λ_ _ _=>k (.tuple l)) m) l
def DA(H:ai)(l:List ah)(k:ai->Prop):Prop:=ai2 (motive:=λ_=>Prop) (k H) (λi l _=>iJ (iI H (i::l)) k) l
abbrev LK:=pW->cC->Nat->az AV->List ah->bw->bw->ah->Prop
def OT(k:LK)(o:bR):Prop:=
 bR.rec (motive:=λ_=>Prop) False (λ_ _ _ _ _ _=>False) (λ_ _=>False) (λ_=>False) (λ_ _ _=>False) k (λ_=>False) (λ_ _ _ _=>False) o
def rr(H:ai)(id:ah)(k:LK):Prop:=yJ H id (OT k)
def yP(st:pW)(ready busy AT:Prop):Prop:=pW.rec (motive:=λ_=>Prop) ready busy AT AT st
abbrev CK:=jB->Fr->ai->rq->Prop
def OU:CK:=λ_ fr H K=>K .none fr H
def uj(l:List bD):CK:=λa fr H K=>a.aA l fr H (K .none)
def wt(a:jB)(c:bw)(K:rq)(j:cC)(fr:Fr)(H:ai):Prop:=wn j (a.exec c fr H K) (λi=>K (.exit i) fr H) (K .ret fr H)
def OV(a d:bw):CK:=λc fr H K=>c.exec a fr H (wt c d K)
def OW(c:aJ)(a e:bw):CK:=λd fr H K=>yN fr λaf _ _=>eO af c λv=>Dw v (d.exec a fr H K) (d.exec e fr H K)
def DB(id:Nat)(K:rq)(j:cC)(fr:Fr)(H:ai):Prop:=wn j (K .none fr H) (λi=>dG (ahr i id) (K .none fr H) (K (.exit i) fr H)) (K .ret fr H)
def OX(id:Nat)(c:bw):CK:=λa fr H K=>a.exec c fr H (DB id K)
def OY(c:bw):CK:=λa fr H K=>a.exec c fr H (wt a (.loop c) K)
def DC(fr:Fr)(l:ah)(K:rq)(H':ai)(bU:cC)(fn:Nat)(af:az AV)(c:List ah)(as bd:bw)(d:ah):Prop:=
 pb H' l (.loop .exhausted bU fn af c as bd d) λa=>K bU fr a
def wu(c:jB)(af:az AV)(params:List ah)(assign body:bw)(fv:AV)(K:rq)(fr:Fr)(H:ai)(d:ah):Prop:=
 mN H (.loop .ready .none 0 af params assign body d) λl H=>
  c.call fv [.yield l] H λ_ H'=>rr H' l λst bU fn af a as bd d=>
   yP st (DC fr l K H' bU fn af a as bd d) False (DC fr l K H' bU fn af a as bd d)
def OZ(f:aJ)(params:List ah)(assign body:bw):CK:=λa fr H K=>yN fr λaf bA bx=>eO af f λfv=>
 Option.rec (motive:=λ_=>Prop) (mN H (.deferred false) λm H=>wu a af params assign body fv K ⟨af,m::bA,bx⟩ H m)
   (λl=>rr H l λ_ _ _ _ _ _ _ d=>wu a af params assign body fv K fr H d) bx
def O0(id:Nat):CK:=λ_ fr H K=>K (.exit id) fr H
def O1:CK:=λ_ fr H K=>K .ret fr H
def AU(fr:Fr)(H:ai)(K:rq)(g:az AV->ai->Option (az AV×ai)):Prop:=
 yN fr λaf bA bx=>iJ (g af H) λp=>Prod.rec (motive:=λ_=>Prop) (λaf H=>K .none ⟨af,bA,bx⟩ H) p
def O2(ac:az aX)(t:Nat):CK:=λ_ fr H K=>pa .none ac t λg=>aX.rec (motive:=λ_=>Prop) False (λ_ _ _=>False) (λ_=>False) (AU fr H K) g
def O3(ac:az aX)(c:bw):CK:=bw.rec (motive:=λ_=>CK) OU uj (λa e _ _=>OV a e) (λc a e _ _=>OW c a e) (λid e _=>OX id e) (λe _=>OY e)
  (λf d a e _ _=>OZ f d a e) O0 O1 (O2 ac) c
def after(a:jB)(l:List bD)(K:Fr->ai->Prop)(dst:Option ah)(re:List gN)(af:az AV)(bA:List ah)(bx:Option ah)(v:AV)(H:ai):Prop:=
 AS af dst v λaf=>HD af H re (a.aA l ⟨af,bA,bx⟩ H K)
def iz(a:jB)(op:bJ)(af:az AV)(k:KV)(h:ai×List (ah×bR)):Prop:=
 Prod.rec (motive:=λ_=>Prop) (λH s=>wm op a af H λv H=>k v (dj H s)) h
def DD(a:jB)(op:bJ)(af:az AV)(H:ai)(iy:List ah)(k:KV):Prop:=
 ai2 (motive:=λ_=>Prop) (wm op a af H k) (λp l _=>iz a op af k (dF af H (p::l))) iy
def O4(a:jB)(l:List bD)(H:ai)(K:Fr->ai->Prop)(dst:Option ah)(op:bJ)(guard:Option (ah×Bool))(iy:List ah)(re:List gN)(af:az AV)(bA:List ah)(bx:Option ah):Prop:=
 Dx af guard (DD a op af H iy (after a l K dst re af bA bx)) (AS af dst .ai8 λaf=>a.aA l ⟨af,bA,bx⟩ H K)
def O5(a:jB)(l:List bD)(fr:Fr)(H:ai)(K:Fr->ai->Prop)(dst:Option ah)(op:bJ)(guard:Option (ah×Bool))(iy:List ah)(re:List gN):Prop:=
 yN fr (O4 a l H K dst op guard iy re)
def O6(a:jB)(fr:Fr)(H:ai)(K:Fr->ai->Prop)(o:bD)(l:List bD)(_:Prop):Prop:=bD.rec (motive:=λ_=>Prop) (O5 a l fr H K) o
def O7(a:jB)(l:List bD)(fr:Fr)(H:ai)(K:Fr->ai->Prop):Prop:=ai2 (motive:=λ_=>Prop) (K fr H) (O6 a fr H K) l
def DE(results:List gO)(K:KV)(fr:Fr)(H:ai):Prop:=yN fr λaf bA _=>DA H bA λH=>yO af H results λl=>Dz l λv=>K v H
def HG(results:List gO)(K:KV)(j:cC)(fr:Fr)(H:ai):Prop:=wn j (DE results K fr H) (λ_=>False) (DE results K fr H)
def AX(a:jB)(H:ai)(K:KV)(all:List AV)(c:Nat)(results:List gO)(body:bw):Prop:=
 dG (aih (lH all) c) (Dy all .xH .ch λaf=>a.exec body ⟨af,[],none⟩ H (HG results K)) False
def AY(H:ai)(K:KV)(all:List AV)(g:List AV->ai->Option (AV×ai)):Prop:=
 iJ (g all H) λp=>Prod.rec (motive:=λ_=>Prop) (λv H=>qh v λv=>K v H) p
def O8(ac:az aX)(c:jB)(args:List AV)(H:ai)(K:KV)(f:Nat)(first a:List AV):Prop:=
 pa .none ac f λg=>mM (first++args++a) λall=>aX.rec (motive:=λ_=>Prop) False (AX c H K all) (AY H K all) (λ_=>False) g
def DF(l:ah)(K:KV)(j:cC)(_:Fr)(H:ai):Prop:=
 rr H l λ_ _ fn af a as bd d=>
  wn j (pb H l (.loop .ready .none fn af a as bd d) λH=>K (.bool true) H)
    (λ_=>pb H l (.loop .done j fn af a as bd d) λH=>K (.bool false) H)
    (pb H l (.loop .done j fn af a as bd d) λH=>K (.bool false) H)
def HH(c:jB)(l:ah)(a:bw)(K:KV)(fr:Fr)(H:ai):Prop:=
 rr H l λst bU fn af e as bd d=>yP st
   (pb H l (.loop .busy bU fn af e as bd d) λH=>c.exec a fr H (DF l K)) False False
def yQ(c:jB)(l:ah)(a:bw)(K:KV)(j:cC)(fr:Fr)(H:ai):Prop:=wn j (HH c l a K fr H) (λ_=>False) False
def DG(a:jB)(args:List AV)(H:ai)(K:KV)(l:ah):Prop:=
 rr H l λst _ _ af c as bd _=>yP st
   (dG (ahr (lH args) (lH c)) (a.exec as ⟨lZ c args af,[],some l⟩ H (yQ a l bd K)) False) False False
def O9(ac:az aX)(c:jB)(f:AV)(args:List AV)(H:ai)(K:KV):Prop:=
 match f with
 |.func f first a=>O8 ac c args H K f first a
 |.yield l=>DG c args H K l
 |_=>False
def fi(ac:az aX)(n:Nat):jB:=Nat.rec (motive:=λ_=>jB)
  ⟨λ_ _ _ _=>False,λ_ _ _ _=>False,λ_ _ _ _=>False⟩
  (λ_ a=>⟨λc fr H K=>O3 ac c a fr H K,O7 a,O9 ac a⟩) n
end Go.al.K
end
