/- A part. No conditions. -/
import Derived.Test.YtjapbgcbkolgmaaGreatDoorA00
set_option linter.all false
open List renaming rec->ahk
open Nat renaming beq->afw,blt->afR,ble->ago
noncomputable section
namespace Go.al.K
section
variable{b:Type}
abbrev KV:=AV->ah->Prop
def dE(n:Nat)(k:Nat->Prop):Prop:=Nat.rec (motive:=λ_=>Prop) (k Nat.zero) (λm _=>k (Nat.succ m)) n
def k7(n:Int)(k:Int->Prop):Prop:=
 Int.rec (motive:=λ_=>Prop) (λm=>dE m λm=>k (.ofNat m)) (λm=>dE m λm=>k (.negSucc m)) n
def nO(p:af):(af->Prop)->Prop:=
 af.rec (motive:=λ_=>(af->Prop)->Prop) (λk=>k .xH) (λ_ a k=>a λp=>k (.xO p)) (λ_ a k=>a λp=>k (.xI p)) p
def zg(p:af):(af->Prop)->Prop:=
 af.rec (motive:=λ_=>(af->Prop)->Prop) (λk=>k (.xO .xH)) (λp _ k=>k (.xI p)) (λ_ a k=>a λp=>k (.xO p)) p
def dk(a:Bool)(x y:Prop):Prop:=Bool.rec (motive:=λ_=>Prop) y x a
def uN(a:Bool)(k:Bool->Prop):Prop:=Bool.rec (motive:=λ_=>Prop) (k false) (k true) a
def sP(d:b)(p:af):ak b->(b->Prop)->Prop:=af.rec (motive:=λ_=>ak b->(b->Prop)->Prop)
  (λt k=>ak.rec (motive:=λ_=>Prop) (k d) (λ_ v _ _ _=>k v) t)
  (λ_ a t k=>ak.rec (motive:=λ_=>Prop) (k d) (λl _ _ _ _=>a l k) t)
  (λ_ a t k=>ak.rec (motive:=λ_=>Prop) (k d) (λ_ _ r _ _=>a r k) t) p
def sQ(d:b)(p:af):b->ak b->(ak b->Prop)->Prop:=af.rec (motive:=λ_=>b->ak b->(ak b->Prop)->Prop)
  (λv t k=>ak.rec (motive:=λ_=>Prop) (k (.node .aG v .aG)) (λl _ r _ _=>k (.node l v r)) t)
  (λ_ a v t k=>ak.rec (motive:=λ_=>Prop) (a v .aG λl=>k (.node l d .aG)) (λl w r _ _=>a v l λl=>k (.node l w r)) t)
  (λ_ a v t k=>ak.rec (motive:=λ_=>Prop) (a v .aG λr=>k (.node .aG d r)) (λl w r _ _=>a v r λr=>k (.node l w r)) t) p
def nP(d:b)(t:ak b):Nat->(b->Prop)->Prop:=ak.rec (motive:=λ_=>Nat->(b->Prop)->Prop)
  (λ_ k=>k d)
  (λ_ v _ a c n k=>Nat.rec (motive:=λ_=>Prop) (k v) (λm _=>dk (afw (Nat.mod m 2) 0) (a (Nat.div m 2) k) (c (Nat.div m 2) k)) n) t
def EE(d:b)(x:b)(t:ak b)(k:ak b->Prop):Prop:=ak.rec (motive:=λ_=>Prop) (k (.node .aG x .aG)) (λl _ r _ _=>k (.node l x r)) t
def lK(d:b)(a:Nat->b->ak b->(ak b->Prop)->Prop)(m:Nat)(x:b)(t:ak b)(k:ak b->Prop):Prop:=
 ak.rec (motive:=λ_=>Prop) (a m x .aG λl=>k (.node l d .aG)) (λl w r _ _=>a m x l λl=>k (.node l w r)) t
def rK(d:b)(a:Nat->b->ak b->(ak b->Prop)->Prop)(m:Nat)(x:b)(t:ak b)(k:ak b->Prop):Prop:=
 ak.rec (motive:=λ_=>Prop) (a m x .aG λr=>k (.node .aG d r)) (λl w r _ _=>a m x r λr=>k (.node l w r)) t
def sR(d:b)(f:Nat):Nat->b->ak b->(ak b->Prop)->Prop:=Nat.rec (motive:=λ_=>Nat->b->ak b->(ak b->Prop)->Prop)
  (λn x t k=>Nat.rec (motive:=λ_=>Prop) (EE d x t k) (λ_ _=>k t) n)
  (λ_ a n x t k=>Nat.rec (motive:=λ_=>Prop) (EE d x t k) (λm _=>dk (afw (Nat.mod m 2) 0) (lK d a (Nat.div m 2) x t k) (rK d a (Nat.div m 2) x t k)) n) f
def Bh(l:List Nat):(List Nat->Prop)->Prop:=ahk (motive:=λ_=>(List Nat->Prop)->Prop) (λk=>k []) (λn _ a k=>dE n λn=>a λl=>k (n::l)) l
def oU(v:AV):(AV->Prop)->Prop:=
 AV.rec (motive_1:=λ_=>(AV->Prop)->Prop) (motive_2:=λ_=>(List AV->Prop)->Prop)
   (λ_ c k=>c λl=>k (.tuple l))
   (λ_ c k=>c λl=>k (.agg l))
   (λi k=>uN i λi=>k (.bool i))
   (λj n k=>dE j λj=>k7 n λn=>k (.int j n))
   (λs k=>Bh s λs=>k (.str s))
   (λid off k=>nO id λid=>dE off λoff=>k (.aE id off))
   (λk=>k .kn)
   (λid off len cap ex k=>nO id λid=>dE off λoff=>dE len λlen=>dE cap λcap=>uN ex λex=>k (.slice id off len cap ex))
   (λk=>k .aH)
   (λid k=>nO id λid=>k (.map id))
   (λk=>k .cC)
   (λf _ _ d e k=>dE f λf=>d λa=>e λi=>k (.func f a i))
   (λid k=>nO id λid=>k (.yield id))
   (λk=>k .nilFunc)
   (λt _ c k=>dE t λt=>c λv=>k (.iface t v))
   (λk=>k .nilIface)
   (λk=>k .b9)
   (λk=>k [])
   (λ_ _ g h k=>g λv=>h λl=>k (v::l)) v
def lb(l:List AV):(List AV->Prop)->Prop:=ahk (motive:=λ_=>(List AV->Prop)->Prop) (λk=>k []) (λv _ a k=>oU v λv=>a λl=>k (v::l)) l
def ep(aa:ak AV)(x:aL)(k:AV->Prop):Prop:=aL.rec (motive:=λ_=>Prop) (λp=>sP .ahp p aa k) k x
def Bi(aa:ak AV)(l:List aL):(List AV->Prop)->Prop:=
 ahk (motive:=λ_=>(List AV->Prop)->Prop) (λk=>k []) (λx _ a k=>ep aa x λv=>a λl=>k (v::l)) l
def iv(o:Option b)(k:b->Prop):Prop:=Option.rec (motive:=λ_=>Prop) False k o
def zh(H:ah)(id:af)(k:bL->Prop):Prop:=ah.rec (motive:=λ_=>Prop) (λt _=>sP .none id t k) H
def nQ(H:ah)(id:af)(o:bL)(k:ah->Prop):Prop:=ah.rec (motive:=λ_=>Prop) (λt n=>sQ .none id o t λt=>k ⟨t,n⟩) H
def lJ(H:ah)(o:bL)(k:af->ah->Prop):Prop:=
 ah.rec (motive:=λ_=>Prop) (λt n=>sQ .none n o t λt=>zg n λm=>k n ⟨t,m⟩) H
def EF(l:List af):ah->(ah->Prop)->Prop:=
 ahk (motive:=λ_=>ah->(ah->Prop)->Prop) (λH k=>k H) (λi _ a H k=>nQ H i .none λH=>a H k) l
def Px(k:ak AV->Nat->Nat->Bool->List af->Nat->Prop)(o:bL):Prop:=
 bL.rec (motive:=λ_=>Prop) False k (λ_ _=>False) (λ_=>False) (λ_ _ _=>False) (λ_ _ _ _ _ _ _ _=>False) (λ_=>False) (λ_ _ _ _=>False) o
def sS(H:ah)(id:af)(k:ak AV->Nat->Nat->Bool->List af->Nat->Prop):Prop:=zh H id (Px k)
def Bj(c:ak AV)(n m:Nat):Nat->(List AV->Prop)->Prop:=
 Nat.rec (motive:=λ_=>Nat->(List AV->Prop)->Prop) (λ_ k=>k [])
   (λ_ a off k=>dk (afR off n) (dE off λoff=>nP .ahp c off λv=>a (Nat.succ off) λl=>k (v::l)) False) m
def zi(l:List AV):ak AV->Nat->(ak AV->Prop)->Prop:=
 ahk (motive:=λ_=>ak AV->Nat->(ak AV->Prop)->Prop) (λc _ k=>k c) (λv _ a c off k=>dE off λoff=>sR .ahp off off v c λc=>a c (Nat.succ off) k) l
def Bk(H:ah)(id:af)(off m:Nat)(k:List AV->Prop):Prop:=
 sS H id λc n _ _ _ _=>Bj c n m off k
def kG(a c:Bool):Bool:=Bool.rec (motive:=λ_=>Bool) false c a
def uO(l:List AV):Bool:=ahk (motive:=λ_=>Bool) true (λv _ a=>kG v.dg a) l
def lf(l:List b):Nat:=ahk (motive:=λ_=>Nat) Nat.zero (λ_ _ a=>Nat.succ a) l
def EG(H:ah)(id:af)(off:Nat)(l:List AV)(k:ah->Prop)(c:ak AV)(n e:Nat)(rw:Bool)(aM:List af)(fz:Nat):Prop:=
 dk (kG rw (kG (ago fz off) (kG (ago (Nat.add off (lf l)) n) (uO l))))
     (EF aM H λH=>zi l c off λc=>nQ H id (.cells c n e true [] fz) k) False
def uP(H:ah)(id:af)(off:Nat)(l:List AV)(k:ah->Prop):Prop:=sS H id (EG H id off l k)
def qZ(v:AV)(k:af->Nat->Prop):Prop:=
 match v with
 |.aE id off=>k id off
 |_=>False
def pS(H:ah)(l:List AV)(n a:Nat)(k:af->ah->Prop):Prop:=
 zi l .aG 0 λc=>dE n λn=>lJ H (.cells c n a true [] 0) k
def EH(a bytes size:Nat)(H:ah)(n:Nat)(l:List AV)(k:KV):Prop:=
 dk (afw n 0) (k .aH H) (dk (kG (dH (n*bytes)) (dH n)) (pS H l (n*size) a λid H=>k (.slice id 0 n n false) H) False)
def I5(size:Nat)(H:ah)(n:Nat)(l:List AV)(k:KV)(id:af)(off len cap:Nat)(exact:Bool)(a:Nat):Prop:=
 dk (afw n 0) (k (.slice id off a cap exact) H)
   (dE (Nat.add off (Nat.mul len size)) λbz=>uP H id bz l λH=>k (.slice id off a cap exact) H)
def I6(d size:Nat)(H:ah)(k:KV)(id:af)(off cap:Nat)(a:Nat)(all:List AV)(c:ak AV)(m e:Nat)(rw:Bool)(aM:List af)(fz:Nat):Prop:=
 dk (kG rw (kG (afw (Nat.add off (Nat.mul cap size)) m) (kG (afw e d) (ago fz m))))
   (nQ H id (.cells c m e false aM fz) λH=>
   zi all .aG 0 λc=>dE (a*size) λf=>dE (fz - off) λfz=>lJ H (.cells c f d true (id::aM) fz) λid H=>k (.slice id 0 a a false) H)
   False
def EI(d size:Nat)(H:ah)(l:List AV)(k:KV)(id:af)(off len cap:Nat)(exact:Bool)(a:Nat)(c:ak AV)(m e:Nat)(rw:Bool)(aM:List af)(fz:Nat):Prop:=
 Bj c m (Nat.mul len size) off λcG=>lb (cG++l) λall=>
  dk exact (pS H all (a*size) d λid H=>k (.slice id 0 a a false) H) (dk (afw len cap) (I6 d size H k id off cap a all c m e rw aM fz) False)
def EJ(c bytes size:Nat)(H:ah)(n:Nat)(l:List AV)(k:KV)(id:af)(off len cap:Nat)(exact:Bool):Prop:=
 dE (Nat.add len n) λa=>dk (ago a cap) (I5 size H n l k id off len cap exact a)
   (dk (kG (dH (a*bytes)) (dH a)) (sS H id (EI c size H l k id off len cap exact a)) False)
def zj(a bytes size:Nat)(H:ah)(s:AV)(n:Nat)(l:List AV)(k:KV):Prop:=
 dk (uO l)
   (match s with
  |.aH=>EH a bytes size H n l k
  |.slice id off len cap exact=>EJ a bytes size H n l k id off len cap exact
  |_=>False)
   False
def I7(x y:AV)(k:Nat->Int->Nat->Int->Prop):Prop:=
 match x,y with
 |.int i a,.int j c=>k i a j c
 |_,_=>False
def I8(a c:Int)(k:Int->Prop):Prop:=
 Int.rec (motive:=λ_=>Prop) (λm=>Int.rec (motive:=λ_=>Prop) (λn=>dE (Nat.add m n) λs=>k (.ofNat s)) (λ_=>k7 (a+c) k) c) (λ_=>k7 (a+c) k) a
def I9(a c:Int)(k:Int->Prop):Prop:=
 Int.rec (motive:=λ_=>Prop) (λm=>Int.rec (motive:=λ_=>Prop) (λn=>dk (ago n m) (dE (Nat.sub m n) λs=>k (.ofNat s)) (k7 (a - c) k)) (λ_=>k7 (a - c) k) c) (λ_=>k7 (a - c) k) a
def I'(n:Int)(k:Int->Prop):Prop:=
 Int.rec (motive:=λ_=>Prop) (λm=>dk (afR m 9223372036854775808) (k (.ofNat m)) (k7 (fG 3 n) k)) (λ_=>k7 (fG 3 n) k) n
def Bm(j:Nat)(n:Int)(k:Int->Prop):Prop:=dk (afw j 3) (I' n k) (k7 (fG j n) k)
def EK(a c:Int):Bool:=Int.rec (motive:=λ_=>Bool) (λm=>Int.rec (motive:=λ_=>Bool) (λn=>afw m n) (λ_=>false) c) (λm=>Int.rec (motive:=λ_=>Bool) (λ_=>false) (λn=>afw m n) c) a
def zk(a c:Int):Bool:=Int.rec (motive:=λ_=>Bool) (λm=>Int.rec (motive:=λ_=>Bool) (λn=>afR m n) (λ_=>false) c) (λm=>Int.rec (motive:=λ_=>Bool) (λ_=>true) (λn=>afR n m) c) a
def Bn(a:Bool):Bool:=Bool.rec (motive:=λ_=>Bool) true false a
def nR(a:Bool)(k:AV->Prop):Prop:=Bool.rec (motive:=λ_=>Prop) (k (.bool false)) (k (.bool true)) a
abbrev AK:=Nat->Int->Int->(AV->Prop)->Prop
def EL:AK:=λj a c k=>I8 a c λs=>Bm j s λs=>k (.int j s)
def EM:AK:=λj a c k=>I9 a c λs=>Bm j s λs=>k (.int j s)
def pT(op:BinOp):AK:=λj a c k=>iv (eR op j a c) λv=>oU v k
def Ja:AK:=λ_ _ _ _=>False
def Py:AK:=λ_ a c k=>nR (EK a c) k
def Pz:AK:=λ_ a c k=>nR (Bn (EK a c)) k
def PA:AK:=λ_ a c k=>nR (zk a c) k
def PB:AK:=λ_ a c k=>nR (Bn (zk c a)) k
def PC:AK:=λ_ a c k=>nR (zk c a) k
def PD:AK:=λ_ a c k=>nR (Bn (zk a c)) k
def EN(op:BinOp):AK:=BinOp.rec (motive:=λ_=>AK) EL EM (pT .mul) (pT .quo) (pT .rem) (pT .and) (pT .or) (pT .xor) Ja Ja (pT .andNot) Py Pz PA PB PC PD op
def EO(op:BinOp)(j:Nat)(x y:AV)(k:AV->Prop):Prop:=
 I7 x y λi a l c=>dk (kG (afw i j) (afw l j)) (EN op j a c k) False
abbrev pU:=bU->Fr->ah->Prop
structure je where
 exec:bg->Fr->ah->pU->Prop
 az:List bA->Fr->ah->(Fr->ah->Prop)->Prop
 call:AV->List AV->ah->KV->Prop
abbrev OK:=je->ak AV->ah->KV->Prop
def eB(o:bE):OK:=λ_ aa H k=>iv (aD o aa H) λp=>Prod.rec (motive:=λ_=>Prop) (λv H=>oU v λv=>k v H) p
def PE(x:aL):OK:=λ_ aa H k=>ep aa x λv=>k v H
def PF(aa:ak AV)(H:ah)(k:KV)(a d:aL)(c:AV):Prop:=match c with
  |.bool t=>dk t (ep aa a λv=>k v H) (ep aa d λv=>k v H)
  |_=>False
def EP(c a d:aL):OK:=λ_ aa H k=>ep aa c (PF aa H k a d)
def EQ(a:Nat)(x:aL):OK:=λ_ aa H k=>ep aa x λv=>lb v.cells λl=>dk (uO l) (pS H l (lf l) a λid H=>k (.aE id 0) H) False
def ER(a:Nat)(c:List AV):OK:=λ_ _ H k=>pS H c (lf c) a λid H=>k (.aE id 0) H
def ES(a len:Nat)(c:List AV)(dA:List (Nat×Nat×aL)):OK:=λ_ aa H k=>
 iv (kE aa (eo c len) dA) λl=>lb l λl=>dk (uO l) (pS H l (lf l) a λid H=>k (.slice id 0 len len true) H) False
def Jb(off:Nat)(k:AV->Prop)(c:ak AV)(n _e:Nat)(_rw:Bool)(_p:List af)(_fz:Nat):Prop:=dk (afR off n) (nP .ahp c off k) False
def Jc(H:ah)(k:KV)(a:AV):Prop:=qZ a λid off=>sS H id (Jb off λv=>k v H)
def ET(a:aL):OK:=λ_ aa H k=>ep aa a (Jc H k)
def EU(n:Nat)(a:aL):OK:=λ_ aa H k=>ep aa a λa=>qZ a λid off=>Bk H id off n λl=>k (.agg l) H
def Jd(n:Nat)(H:ah)(k:KV)(a:AV)(l:List AV):Prop:=qZ a λid off=>dk (afw (lf l) n) (uP H id off l λH=>k .ahp H) False
def EV(n:Nat)(a x:aL):OK:=λ_ aa H k=>ep aa a λa=>ep aa x λv=>lb v.cells (Jd n H k a)
def EW(op:BinOp)(j:Nat)(x y:aL):OK:=λ_ aa H k=>ep aa x λx=>ep aa y λy=>EO op j x y λv=>k v H
def EX(off:Nat)(x:aL):OK:=λ_ aa H k=>ep aa x λx=>qZ x λid o=>dE (Nat.add o off) λo=>k (.aE id o) H
def Je(size:Nat)(H:ah)(k:KV)(x i:AV):Prop:=match x,i with
  |.slice id o len _ _,.int _ (.ofNat j)=>dk (afR j len) (dE (Nat.add o (Nat.mul j size)) λo=>k (.aE id o) H) False
  |_,_=>False
def EY(size:Nat)(x i:aL):OK:=λ_ aa H k=>ep aa x λx=>ep aa i λi=>Je size H k x i
def EZ:OK:=λ_ _ H k=>lJ H (.map [] 0) λid H=>k (.map id) H
def Jf(a bytes size:Nat)(d:List AV)(H:ah)(k:KV)(len cap:AV):Prop:=match len,cap with
  |.int 3 (.ofNat l),.int 3 (.ofNat c)=>
   dk (kG (ago l c) (kG (dH (c*bytes)) (dH c))) (lb (eo d c) λd=>pS H d (c*size) a λid H=>k (.slice id 0 l c true) H) False
  |_,_=>False
def E0(a bytes size:Nat)(c:List AV)(len cap:aL):OK:=λ_ aa H k=>ep aa len λlen=>ep aa cap λcap=>Jf a bytes size c H k len cap
def Jg(a:Nat)(H:ah)(k:KV)(x:AV):Prop:=match x with
  |.str s=>lb (s.map λn=>.int 4 (.ofNat n)) λl=>pS H l s.length a λid H=>dE s.length λn=>k (.slice id 0 n n false) H
  |_=>False
def E1(a:Nat)(x:aL):OK:=λ_ aa H k=>ep aa x (Jg a H k)
def Jh(a bytes size:Nat)(c:List AV)(H:ah)(s:AV)(k:KV)(x:AV):Prop:=match x with
  |.int 3 (.ofNat n)=>dk (kG (dH (n*bytes)) (dH n)) (lb (eo c n) λl=>zj a bytes size H s n l k) False
  |_=>False
def PG(a bytes size:Nat)(H:ah)(s:AV)(k:KV)(p:Nat×List AV):Prop:=Prod.rec (motive:=λ_=>Prop) (λn l=>dE n λn=>lb l λl=>zj a bytes size H s n l k) p
def E2(c bytes size:Nat)(d:List AV)(a:Bool)(s x:aL):OK:=λ_ aa H k=>ep aa s λs=>ep aa x λx=>
   dk a (Jh c bytes size d H s k x) (iv (gh H size x) (PG c bytes size H s k))
def E3(size:Nat)(H:ah)(k:KV)(d:AV)(n:Nat)(l:List AV):Prop:=match d with
  |.aH=>k (.int 3 (.ofNat 0)) H
  |.slice id off len _ _=>dE (min n len) λm=>dk (afw m 0) (k (.int 3 (.ofNat 0)) H)
     (lb (l.take (m*size)) λl=>uP H id off l λH=>k (.int 3 (.ofNat m)) H)
  |_=>False
def E4(size:Nat)(d s:aL):OK:=λ_ aa H k=>ep aa d λd=>ep aa s λs=>iv (gh H size s) λp=>Prod.rec (motive:=λ_=>Prop) (E3 size H k d) p
def Ji(H:ah)(k:KV)(x:AV):Prop:=match x with
  |.str s=>lJ H (.jU s s 0) λid H=>k (.aE id 0) H
  |_=>False
def E5(x:aL):OK:=λ_ aa H k=>ep aa x (Ji H k)
def Jj(H:ah)(k:KV)(x:AV):Prop:=match x with
  |.cC=>lJ H (.mapIter none 0 [] 0) λid H=>k (.aE id 0) H
  |.map m=>zh H m λo=>match o with
   |.map _ a=>lJ H (.mapIter (some m) a [] a) λid H=>k (.aE id 0) H
   |_=>False
  |_=>False
def E6(x:aL):OK:=λ_ aa H k=>ep aa x (Jj H k)
def Jk(H:ah)(d:AV)(k:KV):Prop:=match pR H d with
  |some (cs,a)=>∀i,i<cs.length->match cs[i]? with
   |some c=>k (a c).1 (a c).2
   |none=>False
  |none=>False
def PH(a:aL):OK:=λ_ aa H k=>ep aa a λa=>Jk H a k
def PJ(f:aL)(args:List aL):OK:=λa aa H k=>ep aa f λf=>Bi aa args λargs=>a.call f args H k
def E7(l:List AV):Nat->(AV->Prop)->Prop:=ahk (motive:=λ_=>Nat->(AV->Prop)->Prop) (λ_ _=>False) (λv _ a n k=>Nat.rec (motive:=λ_=>Prop) (k v) (λn _=>a n k) n) l
def Jl(i:Nat)(H:ah)(k:KV)(x:AV):Prop:=match x with
  |.tuple l=>E7 l i λv=>k v H
  |_=>False
def E8(x:aL)(i:Nat):OK:=λ_ aa H k=>ep aa x (Jl i H k)
def Jn(H:ah)(k:KV)(x:AV):Prop:=match x with
  |.aE id off=>k (.aE id off) H
  |.func f a g=>k (.func f a g) H
  |.yield l=>k (.yield l) H
  |.iface t v=>k (.iface t v) H
  |.map m=>k (.map m) H
  |.slice a g c d e=>k (.slice a g c d e) H
  |_=>False
def E9(x:aL):OK:=λ_ aa H k=>ep aa x (Jn H k)
def Jo(H:ah)(k:KV)(x:AV):Prop:=match x with
  |.slice _ _ n _ _=>k (.int 3 (.ofNat n)) H
  |.aH=>k (.int 3 (.ofNat 0)) H
  |_=>False
def E'(x:aL):OK:=λ_ aa H k=>ep aa x (Jo H k)
def uQ(o:bE):OK:=bE.rec (motive:=λ_=>OK)
  PE
  EP
  EQ
  ER
  (λg dA=>eB (.build g dA))
  ES
  ET
  EU
  EV
  E9
  EW
  (λop x y=>eB (.shift op x y))
  (λop x y=>eB (.lE op x y))
  (λneg d x y=>eB (.eq neg d x y))
  (λop x=>eB (.unary op x))
  (λk x=>eB (.jT k x))
  E1
  (λx=>eB (.sI x))
  (λx=>eB (.zd x))
  (λt x=>eB (.pP t x))
  (λf first a=>eB (.mK f first a))
  EZ
  E0
  (λn size x lo hi h=>eB (.qU n size x lo hi h))
  (λe size x lo hi h=>eB (.gD e size x lo hi h))
  (λx lo hi=>eB (.sJ x lo hi))
  EX
  (λagg off size x=>eB (.part agg off size x))
  (λn size x i=>eB (.sK n size x i))
  EY
  (λagg n size x i=>eB (.sL agg n size x i))
  (λx i=>eB (.mL x i))
  (λkey zero ok m k=>eB (.lookup key zero ok m k))
  (λkey m k v=>eB (.iP key m k v))
  (λkey zero m k=>eB (.mapEntry key zero m k))
  (λm s v=>eB (.entryStore m s v))
  E5
  (λj=>eB (.qV j))
  E6
  PH
  (λj=>eB (.pQ j))
  (eB .lG)
  (λt zero ok x=>eB (.typeAssert t zero ok x))
  E8
  (λn=>eB (.qW n))
  (λx=>eB (.nJ x))
  E'
  (λx=>eB (.sM x))
  (λx=>eB (.cap x))
  E2
  E4
  (λg x=>eB (.uI g x))
  (λx=>eB (.uJ x))
  (λkey m k=>eB (.delete key m k))
  (λc l=>eB (.nK c l))
  (λm ks=>eB (.fill m ks))
  PJ o
def uR(j:bU)(x:Prop)(y:Nat->Prop)(z:Prop):Prop:=bU.rec (motive:=λ_=>Prop) x y z j
def zl(fr:Fr)(k:ak AV->List af->Option af->Prop):Prop:=Fr.rec (motive:=λ_=>Prop) k fr
def Bo(v:AV)(t f:Prop):Prop:=match v with
 |.bool a=>dk a t f
 |_=>False
def Bp(aa:ak AV)(d:Option af)(v:AV)(k:ak AV->Prop):Prop:=
 Option.rec (motive:=λ_=>Prop) (k aa) (λp=>sQ .ahp p v aa k) d
def Fb(aa:ak AV)(H:ah)(l:List gE)(x:Prop):Prop:=
 ahk (motive:=λ_=>Prop) x (λp l _=>dk (du aa H (p::l)) x False) l
def Bq(aa:ak AV)(g:Option (af×Bool))(x y:Prop):Prop:=
 Option.rec (motive:=λ_=>Prop) x (λg=>dk (dc aa (some g)) x (dk (iT aa (some g)) y False)) g
def Fc(l:List AV):af->ak AV->(ak AV->Prop)->Prop:=
 ahk (motive:=λ_=>af->ak AV->(ak AV->Prop)->Prop) (λ_ t k=>k t) (λv _ a p t k=>sQ .ahp p v t λt=>zg p λp=>a p t k) l
def zm(aa:ak AV)(H:ah)(l:List fR):(List AV->Prop)->Prop:=
 ahk (motive:=λ_=>(List AV->Prop)->Prop) (λk=>k [])
   (λr _ c k=>fR.rec (motive:=λ_=>Prop) (λp=>sP .ahp p aa λv=>c λl=>k (v::l))
    (λp agg n=>sP .ahp p aa λa=>iv (gF H a n agg) λv=>oU v λv=>c λl=>k (v::l)) r) l
def Fe(l:List AV)(k:AV->Prop):Prop:=ahk (motive:=λ_=>Prop) (k (.tuple [])) (λv m _=>ahk (motive:=λ_=>Prop) (k v) (λ_ _ _=>k (.tuple l)) m) l
def Ff(H:ah)(l:List af)(k:ah->Prop):Prop:=ahk (motive:=λ_=>Prop) (k H) (λi l _=>iv (gZ H (i::l)) k) l
abbrev LK:=oS->bU->Nat->ak AV->List af->bg->bg->af->Prop
def PK(k:LK)(o:bL):Prop:=
 bL.rec (motive:=λ_=>Prop) False (λ_ _ _ _ _ _=>False) (λ_ _=>False) (λ_=>False) (λ_ _ _=>False) k (λ_=>False) (λ_ _ _ _=>False) o
def pV(H:ah)(id:af)(k:LK):Prop:=zh H id (PK k)
def zn(st:oS)(ready busy Br:Prop):Prop:=oS.rec (motive:=λ_=>Prop) ready busy Br Br st
abbrev CK:=je->Fr->ah->pU->Prop
def PL:CK:=λ_ fr H K=>K .none fr H
def sU(l:List bA):CK:=λa fr H K=>a.az l fr H (K .none)
def uS(a:je)(c:bg)(K:pU)(j:bU)(fr:Fr)(H:ah):Prop:=uR j (a.exec c fr H K) (λi=>K (.exit i) fr H) (K .ret fr H)
def PM(a d:bg):CK:=λc fr H K=>c.exec a fr H (uS c d K)
def PN(c:aL)(a e:bg):CK:=λd fr H K=>zl fr λaa _ _=>ep aa c λv=>Bo v (d.exec a fr H K) (d.exec e fr H K)
def Fg(id:Nat)(K:pU)(j:bU)(fr:Fr)(H:ah):Prop:=uR j (K .none fr H) (λi=>dk (afw i id) (K .none fr H) (K (.exit i) fr H)) (K .ret fr H)
def PO(id:Nat)(c:bg):CK:=λa fr H K=>a.exec c fr H (Fg id K)
def PP(c:bg):CK:=λa fr H K=>a.exec c fr H (uS a (.loop c) K)
def Fh(fr:Fr)(l:af)(K:pU)(c:ah)(bP:bU)(fn:Nat)(aa:ak AV)(e:List af)(as f:bg)(d:af):Prop:=
 nQ c l (.loop .exhausted bP fn aa e as f d) λa=>K bP fr a
def uT(f:je)(aa:ak AV)(params:List af)(assign body:bg)(fv:AV)(K:pU)(fr:Fr)(H:ah)(d:af):Prop:=
 lJ H (.loop .ready .none 0 aa params assign body d) λl H=>
  f.call fv [.yield l] H λ_ a=>pV a l λst bP fn aa c as e d=>
   zn st (Fh fr l K a bP fn aa c as e d) False (Fh fr l K a bP fn aa c as e d)
def PQ(f:aL)(params:List af)(assign body:bg):CK:=λa fr H K=>zl fr λaa br bw=>ep aa f λfv=>
 Option.rec (motive:=λ_=>Prop) (lJ H (.deferred false) λm H=>uT a aa params assign body fv K ⟨aa,m::br,bw⟩ H m)
   (λl=>pV H l λ_ _ _ _ _ _ _ d=>uT a aa params assign body fv K fr H d) bw
def PR(id:Nat):CK:=λ_ fr H K=>K (.exit id) fr H
def PS:CK:=λ_ fr H K=>K .ret fr H
def Bs(fr:Fr)(H:ah)(K:pU)(g:ak AV->ah->Option (ak AV×ah)):Prop:=
 zl fr λaa br bw=>iv (g aa H) λp=>Prod.rec (motive:=λ_=>Prop) (λaa H=>K .none ⟨aa,br,bw⟩ H) p
def PT(ac:ak aX)(t:Nat):CK:=λ_ fr H K=>nP .none ac t λg=>aX.rec (motive:=λ_=>Prop) False (λ_ _ _=>False) (λ_=>False) (Bs fr H K) g
def PU(ac:ak aX)(c:bg):CK:=bg.rec (motive:=λ_=>CK) PL sU (λa e _ _=>PM a e) (λc a e _ _=>PN c a e) (λid e _=>PO id e) (λe _=>PP e)
  (λf d a e _ _=>PQ f d a e) PR PS (PT ac) c
def after(a:je)(l:List bA)(K:Fr->ah->Prop)(dst:Option af)(re:List gE)(aa:ak AV)(br:List af)(bw:Option af)(v:AV)(H:ah):Prop:=
 Bp aa dst v λaa=>Fb aa H re (a.az l ⟨aa,br,bw⟩ H K)
def fV(a:je)(op:bE)(aa:ak AV)(k:KV)(h:ah×List (af×bL)):Prop:=
 Prod.rec (motive:=λ_=>Prop) (λH s=>uQ op a aa H λv H=>k v (cH H s)) h
def Fi(a:je)(op:bE)(aa:ak AV)(H:ah)(fQ:List af)(k:KV):Prop:=
 ahk (motive:=λ_=>Prop) (uQ op a aa H k) (λp l _=>fV a op aa k (cW aa H (p::l))) fQ
def PV(a:je)(l:List bA)(H:ah)(K:Fr->ah->Prop)(dst:Option af)(op:bE)(guard:Option (af×Bool))(fQ:List af)(re:List gE)(aa:ak AV)(br:List af)(bw:Option af):Prop:=
 Bq aa guard (Fi a op aa H fQ (after a l K dst re aa br bw)) (Bp aa dst .ahp λaa=>a.az l ⟨aa,br,bw⟩ H K)
def PW(a:je)(l:List bA)(fr:Fr)(H:ah)(K:Fr->ah->Prop)(dst:Option af)(op:bE)(guard:Option (af×Bool))(fQ:List af)(re:List gE):Prop:=
 zl fr (PV a l H K dst op guard fQ re)
def PX(a:je)(fr:Fr)(H:ah)(K:Fr->ah->Prop)(o:bA)(l:List bA)(_:Prop):Prop:=bA.rec (motive:=λ_=>Prop) (PW a l fr H K) o
def PY(a:je)(l:List bA)(fr:Fr)(H:ah)(K:Fr->ah->Prop):Prop:=ahk (motive:=λ_=>Prop) (K fr H) (PX a fr H K) l
def Fj(results:List fR)(K:KV)(fr:Fr)(H:ah):Prop:=zl fr λaa br _=>Ff H br λH=>zm aa H results λl=>Fe l λv=>K v H
def Jp(results:List fR)(K:KV)(j:bU)(fr:Fr)(H:ah):Prop:=uR j (Fj results K fr H) (λ_=>False) (Fj results K fr H)
def Bt(a:je)(H:ah)(K:KV)(all:List AV)(c:Nat)(results:List fR)(body:bg):Prop:=
 dk (ago (lf all) c) (Fc all .xH .aG λaa=>a.exec body ⟨aa,[],none⟩ H (Jp results K)) False
def Bu(H:ah)(K:KV)(all:List AV)(g:List AV->ah->Option (AV×ah)):Prop:=
 iv (g all H) λp=>Prod.rec (motive:=λ_=>Prop) (λv H=>oU v λv=>K v H) p
def PZ(ac:ak aX)(c:je)(args:List AV)(H:ah)(K:KV)(f:Nat)(first a:List AV):Prop:=
 nP .none ac f λg=>lb (first++args++a) λall=>aX.rec (motive:=λ_=>Prop) False (Bt c H K all) (Bu H K all) (λ_=>False) g
def Fk(l:af)(K:KV)(j:bU)(_:Fr)(H:ah):Prop:=
 pV H l λ_ _ fn aa a as c d=>
  uR j (nQ H l (.loop .ready .none fn aa a as c d) λH=>K (.bool true) H)
    (λ_=>nQ H l (.loop .done j fn aa a as c d) λH=>K (.bool false) H)
    (nQ H l (.loop .done j fn aa a as c d) λH=>K (.bool false) H)
def Jq(c:je)(l:af)(a:bg)(K:KV)(fr:Fr)(H:ah):Prop:=
 pV H l λst bP fn aa e as f d=>zn st
   (nQ H l (.loop .busy bP fn aa e as f d) λH=>c.exec a fr H (Fk l K)) False False
def zo(c:je)(l:af)(a:bg)(K:KV)(j:bU)(fr:Fr)(H:ah):Prop:=uR j (Jq c l a K fr H) (λ_=>False) False
def Fl(a:je)(args:List AV)(H:ah)(K:KV)(l:af):Prop:=
 pV H l λst _ _ aa c as d _=>zn st
   (dk (afw (lf args) (lf c)) (a.exec as ⟨kF c args aa,[],some l⟩ H (zo a l d K)) False) False False
def P1(ac:ak aX)(c:je)(f:AV)(args:List AV)(H:ah)(K:KV):Prop:=
 match f with
 |.func f first a=>PZ ac c args H K f first a
 |.yield l=>Fl c args H K l
 |_=>False
def dq(ac:ak aX)(n:Nat):je:=Nat.rec (motive:=λ_=>je)
  ⟨λ_ _ _ _=>False,λ_ _ _ _=>False,λ_ _ _ _=>False⟩
  (λ_ a=>⟨λc fr H K=>PU ac c a fr H K,PY a,P1 ac a⟩) n
end
end Go.al.K
end
