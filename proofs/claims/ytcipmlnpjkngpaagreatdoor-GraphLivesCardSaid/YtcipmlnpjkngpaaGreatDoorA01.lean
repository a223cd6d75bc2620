/- A part. No conditions. -/
import Derived.Test.YtcipmlnpjkngpaaGreatDoorA00
set_option linter.all false
open List renaming rec->agr
open Nat renaming beq->aeF,blt->ae0,ble->afx
noncomputable section
namespace Go.ak.K
section
variable{b:Type}
abbrev KV:=AV->ai->Prop
def dF(n:Nat)(k:Nat->Prop):Prop:=Nat.rec (motive:=λ_=>Prop) (k Nat.zero) (λm _=>k (Nat.succ m)) n
def kP(n:Int)(k:Int->Prop):Prop:=
 Int.rec (motive:=λ_=>Prop) (λm=>dF m λm=>k (.ofNat m)) (λm=>dF m λm=>k (.negSucc m)) n
def nB(p:af):(af->Prop)->Prop:=
 af.rec (motive:=λ_=>(af->Prop)->Prop) (λk=>k .xH) (λ_ a k=>a λp=>k (.xO p)) (λ_ a k=>a λp=>k (.xI p)) p
def wV(p:af):(af->Prop)->Prop:=
 af.rec (motive:=λ_=>(af->Prop)->Prop) (λk=>k (.xO .xH)) (λp _ k=>k (.xI p)) (λ_ a k=>a λp=>k (.xO p)) p
def dj(a:Bool)(x y:Prop):Prop:=Bool.rec (motive:=λ_=>Prop) y x a
def uA(a:Bool)(k:Bool->Prop):Prop:=Bool.rec (motive:=λ_=>Prop) (k false) (k true) a
def sG(d:b)(p:af):am b->(b->Prop)->Prop:=af.rec (motive:=λ_=>am b->(b->Prop)->Prop)
  (λt k=>am.rec (motive:=λ_=>Prop) (k d) (λ_ v _ _ _=>k v) t)
  (λ_ a t k=>am.rec (motive:=λ_=>Prop) (k d) (λl _ _ _ _=>a l k) t)
  (λ_ a t k=>am.rec (motive:=λ_=>Prop) (k d) (λ_ _ r _ _=>a r k) t) p
def sH(d:b)(p:af):b->am b->(am b->Prop)->Prop:=af.rec (motive:=λ_=>b->am b->(am b->Prop)->Prop)
  (λv t k=>am.rec (motive:=λ_=>Prop) (k (.node .aF v .aF)) (λl _ r _ _=>k (.node l v r)) t)
  (λ_ a v t k=>am.rec (motive:=λ_=>Prop) (a v .aF λl=>k (.node l d .aF)) (λl w r _ _=>a v l λl=>k (.node l w r)) t)
  (λ_ a v t k=>am.rec (motive:=λ_=>Prop) (a v .aF λr=>k (.node .aF d r)) (λl w r _ _=>a v r λr=>k (.node l w r)) t) p
def nC(d:b)(t:am b):Nat->(b->Prop)->Prop:=am.rec (motive:=λ_=>Nat->(b->Prop)->Prop)
  (λ_ k=>k d)
  (λ_ v _ a c n k=>Nat.rec (motive:=λ_=>Prop) (k v) (λm _=>dj (aeF (Nat.mod m 2) 0) (a (Nat.div m 2) k) (c (Nat.div m 2) k)) n) t
def BT(d:b)(x:b)(t:am b)(k:am b->Prop):Prop:=am.rec (motive:=λ_=>Prop) (k (.node .aF x .aF)) (λl _ r _ _=>k (.node l x r)) t
def lK(d:b)(a:Nat->b->am b->(am b->Prop)->Prop)(m:Nat)(x:b)(t:am b)(k:am b->Prop):Prop:=
 am.rec (motive:=λ_=>Prop) (a m x .aF λl=>k (.node l d .aF)) (λl w r _ _=>a m x l λl=>k (.node l w r)) t
def rK(d:b)(a:Nat->b->am b->(am b->Prop)->Prop)(m:Nat)(x:b)(t:am b)(k:am b->Prop):Prop:=
 am.rec (motive:=λ_=>Prop) (a m x .aF λr=>k (.node .aF d r)) (λl w r _ _=>a m x r λr=>k (.node l w r)) t
def sI(d:b)(f:Nat):Nat->b->am b->(am b->Prop)->Prop:=Nat.rec (motive:=λ_=>Nat->b->am b->(am b->Prop)->Prop)
  (λn x t k=>Nat.rec (motive:=λ_=>Prop) (BT d x t k) (λ_ _=>k t) n)
  (λ_ a n x t k=>Nat.rec (motive:=λ_=>Prop) (BT d x t k) (λm _=>dj (aeF (Nat.mod m 2) 0) (lK d a (Nat.div m 2) x t k) (rK d a (Nat.div m 2) x t k)) n) f
def zn(l:List Nat):(List Nat->Prop)->Prop:=agr (motive:=λ_=>(List Nat->Prop)->Prop) (λk=>k []) (λn _ a k=>dF n λn=>a λl=>k (n::l)) l
def oO(v:AV):(AV->Prop)->Prop:=
 AV.rec (motive_1:=λ_=>(AV->Prop)->Prop) (motive_2:=λ_=>(List AV->Prop)->Prop)
   (λ_ c k=>c λl=>k (.tuple l))
   (λ_ c k=>c λl=>k (.agg l))
   (λi k=>uA i λi=>k (.bool i))
   (λj n k=>dF j λj=>kP n λn=>k (.int j n))
   (λs k=>zn s λs=>k (.str s))
   (λid off k=>nB id λid=>dF off λoff=>k (.aD id off))
   (λk=>k .j5)
   (λid off len cap ex k=>nB id λid=>dF off λoff=>dF len λlen=>dF cap λcap=>uA ex λex=>k (.slice id off len cap ex))
   (λk=>k .aG)
   (λid k=>nB id λid=>k (.map id))
   (λk=>k .d9)
   (λf _ _ d e k=>dF f λf=>d λa=>e λi=>k (.func f a i))
   (λid k=>nB id λid=>k (.yield id))
   (λk=>k .nilFunc)
   (λt _ c k=>dF t λt=>c λv=>k (.iface t v))
   (λk=>k .nilIface)
   (λk=>k .ct)
   (λk=>k [])
   (λ_ _ g h k=>g λv=>h λl=>k (v::l)) v
def kQ(l:List AV):(List AV->Prop)->Prop:=agr (motive:=λ_=>(List AV->Prop)->Prop) (λk=>k []) (λv _ a k=>oO v λv=>a λl=>k (v::l)) l
def ev(aa:am AV)(x:aK)(k:AV->Prop):Prop:=aK.rec (motive:=λ_=>Prop) (λp=>sG .agx p aa k) k x
def zo(aa:am AV)(l:List aK):(List AV->Prop)->Prop:=
 agr (motive:=λ_=>(List AV->Prop)->Prop) (λk=>k []) (λx _ a k=>ev aa x λv=>a λl=>k (v::l)) l
def il(o:Option b)(k:b->Prop):Prop:=Option.rec (motive:=λ_=>Prop) False k o
def wX(H:ai)(id:af)(k:bO->Prop):Prop:=ai.rec (motive:=λ_=>Prop) (λt _=>sG .none id t k) H
def nD(H:ai)(id:af)(o:bO)(k:ai->Prop):Prop:=ai.rec (motive:=λ_=>Prop) (λt n=>sH .none id o t λt=>k ⟨t,n⟩) H
def ls(H:ai)(o:bO)(k:af->ai->Prop):Prop:=
 ai.rec (motive:=λ_=>Prop) (λt n=>sH .none n o t λt=>wV n λm=>k n ⟨t,m⟩) H
def BU(l:List af):ai->(ai->Prop)->Prop:=
 agr (motive:=λ_=>ai->(ai->Prop)->Prop) (λH k=>k H) (λi _ a H k=>nD H i .none λH=>a H k) l
def M8(k:am AV->Nat->Nat->Bool->List af->Nat->Prop)(o:bO):Prop:=
 bO.rec (motive:=λ_=>Prop) False k (λ_ _=>False) (λ_=>False) (λ_ _ _=>False) (λ_ _ _ _ _ _ _ _=>False) (λ_=>False) (λ_ _ _ _=>False) o
def sJ(H:ai)(id:af)(k:am AV->Nat->Nat->Bool->List af->Nat->Prop):Prop:=wX H id (M8 k)
def zp(c:am AV)(n m:Nat):Nat->(List AV->Prop)->Prop:=
 Nat.rec (motive:=λ_=>Nat->(List AV->Prop)->Prop) (λ_ k=>k [])
   (λ_ a off k=>dj (ae0 off n) (dF off λoff=>nC .agx c off λv=>a (Nat.succ off) λl=>k (v::l)) False) m
def wY(l:List AV):am AV->Nat->(am AV->Prop)->Prop:=
 agr (motive:=λ_=>am AV->Nat->(am AV->Prop)->Prop) (λc _ k=>k c) (λv _ a c off k=>dF off λoff=>sI .agx off off v c λc=>a c (Nat.succ off) k) l
def zq(H:ai)(id:af)(off m:Nat)(k:List AV->Prop):Prop:=
 sJ H id λc n _ _ _ _=>zp c n m off k
def kr(a c:Bool):Bool:=Bool.rec (motive:=λ_=>Bool) false c a
def uB(l:List AV):Bool:=agr (motive:=λ_=>Bool) true (λv _ a=>kr v.db a) l
def kR(l:List b):Nat:=agr (motive:=λ_=>Nat) Nat.zero (λ_ _ a=>Nat.succ a) l
def BV(H:ai)(id:af)(off:Nat)(l:List AV)(k:ai->Prop)(c:am AV)(n e:Nat)(rw:Bool)(aM:List af)(fz:Nat):Prop:=
 dj (kr rw (kr (afx fz off) (kr (afx (Nat.add off (kR l)) n) (uB l))))
     (BU aM H λH=>wY l c off λc=>nD H id (.cells c n e true [] fz) k) False
def uC(H:ai)(id:af)(off:Nat)(l:List AV)(k:ai->Prop):Prop:=sJ H id (BV H id off l k)
def qT(v:AV)(k:af->Nat->Prop):Prop:=
 match v with
 |.aD id off=>k id off
 |_=>False
def pL(H:ai)(l:List AV)(n a:Nat)(k:af->ai->Prop):Prop:=
 wY l .aF 0 λc=>dF n λn=>ls H (.cells c n a true [] 0) k
def BW(a bytes size:Nat)(H:ai)(n:Nat)(l:List AV)(k:KV):Prop:=
 dj (aeF n 0) (k .aG H) (dj (kr (dG (n*bytes)) (dG n)) (pL H l (n*size) a λid H=>k (.slice id 0 n n false) H) False)
def FY(size:Nat)(H:ai)(n:Nat)(l:List AV)(k:KV)(id:af)(off len cap:Nat)(exact:Bool)(a:Nat):Prop:=
 dj (aeF n 0) (k (.slice id off a cap exact) H)
   (dF (Nat.add off (Nat.mul len size)) λbt=>uC H id bt l λH=>k (.slice id off a cap exact) H)
def FZ(d size:Nat)(H:ai)(k:KV)(id:af)(off cap:Nat)(a:Nat)(all:List AV)(c:am AV)(m e:Nat)(rw:Bool)(aM:List af)(fz:Nat):Prop:=
 dj (kr rw (kr (aeF (Nat.add off (Nat.mul cap size)) m) (kr (aeF e d) (afx fz m))))
   (nD H id (.cells c m e false aM fz) λH=>
   wY all .aF 0 λc=>dF (a*size) λf=>dF (fz - off) λfz=>ls H (.cells c f d true (id::aM) fz) λid H=>k (.slice id 0 a a false) H)
   False
def BX(d size:Nat)(H:ai)(l:List AV)(k:KV)(id:af)(off len cap:Nat)(exact:Bool)(a:Nat)(c:am AV)(m e:Nat)(rw:Bool)(aM:List af)(fz:Nat):Prop:=
 zp c m (Nat.mul len size) off λcM=>kQ (cM++l) λall=>
  dj exact (pL H all (a*size) d λid H=>k (.slice id 0 a a false) H) (dj (aeF len cap) (FZ d size H k id off cap a all c m e rw aM fz) False)
def BY(c bytes size:Nat)(H:ai)(n:Nat)(l:List AV)(k:KV)(id:af)(off len cap:Nat)(exact:Bool):Prop:=
 dF (Nat.add len n) λa=>dj (afx a cap) (FY size H n l k id off len cap exact a)
   (dj (kr (dG (a*bytes)) (dG a)) (sJ H id (BX c size H l k id off len cap exact a)) False)
def wZ(a bytes size:Nat)(H:ai)(s:AV)(n:Nat)(l:List AV)(k:KV):Prop:=
 dj (uB l)
   (match s with
  |.aG=>BW a bytes size H n l k
  |.slice id off len cap exact=>BY a bytes size H n l k id off len cap exact
  |_=>False)
   False
def F1(x y:AV)(k:Nat->Int->Nat->Int->Prop):Prop:=
 match x,y with
 |.int i a,.int j c=>k i a j c
 |_,_=>False
def F3(a c:Int)(k:Int->Prop):Prop:=
 Int.rec (motive:=λ_=>Prop) (λm=>Int.rec (motive:=λ_=>Prop) (λn=>dF (Nat.add m n) λs=>k (.ofNat s)) (λ_=>kP (a+c) k) c) (λ_=>kP (a+c) k) a
def F4(a c:Int)(k:Int->Prop):Prop:=
 Int.rec (motive:=λ_=>Prop) (λm=>Int.rec (motive:=λ_=>Prop) (λn=>dj (afx n m) (dF (Nat.sub m n) λs=>k (.ofNat s)) (kP (a - c) k)) (λ_=>kP (a - c) k) c) (λ_=>kP (a - c) k) a
def F5(n:Int)(k:Int->Prop):Prop:=
 Int.rec (motive:=λ_=>Prop) (λm=>dj (ae0 m 9223372036854775808) (k (.ofNat m)) (kP (fA 3 n) k)) (λ_=>kP (fA 3 n) k) n
def zr(j:Nat)(n:Int)(k:Int->Prop):Prop:=dj (aeF j 3) (F5 n k) (kP (fA j n) k)
def BZ(a c:Int):Bool:=Int.rec (motive:=λ_=>Bool) (λm=>Int.rec (motive:=λ_=>Bool) (λn=>aeF m n) (λ_=>false) c) (λm=>Int.rec (motive:=λ_=>Bool) (λ_=>false) (λn=>aeF m n) c) a
def w6(a c:Int):Bool:=Int.rec (motive:=λ_=>Bool) (λm=>Int.rec (motive:=λ_=>Bool) (λn=>ae0 m n) (λ_=>false) c) (λm=>Int.rec (motive:=λ_=>Bool) (λ_=>true) (λn=>ae0 n m) c) a
def zt(a:Bool):Bool:=Bool.rec (motive:=λ_=>Bool) true false a
def nE(a:Bool)(k:AV->Prop):Prop:=Bool.rec (motive:=λ_=>Prop) (k (.bool false)) (k (.bool true)) a
abbrev AK:=Nat->Int->Int->(AV->Prop)->Prop
def B0:AK:=λj a c k=>F3 a c λs=>zr j s λs=>k (.int j s)
def B3:AK:=λj a c k=>F4 a c λs=>zr j s λs=>k (.int j s)
def pM(op:BinOp):AK:=λj a c k=>il (eT op j a c) λv=>oO v k
def F6:AK:=λ_ _ _ _=>False
def M9:AK:=λ_ a c k=>nE (BZ a c) k
def Na:AK:=λ_ a c k=>nE (zt (BZ a c)) k
def Nb:AK:=λ_ a c k=>nE (w6 a c) k
def Nc:AK:=λ_ a c k=>nE (zt (w6 c a)) k
def Nd:AK:=λ_ a c k=>nE (w6 c a) k
def Nf:AK:=λ_ a c k=>nE (zt (w6 a c)) k
def B4(op:BinOp):AK:=BinOp.rec (motive:=λ_=>AK) B0 B3 (pM .mul) (pM .quo) (pM .rem) (pM .and) (pM .or) (pM .xor) F6 F6 (pM .andNot) M9 Na Nb Nc Nd Nf op
def B5(op:BinOp)(j:Nat)(x y:AV)(k:AV->Prop):Prop:=
 F1 x y λi a l c=>dj (kr (aeF i j) (aeF l j)) (B4 op j a c k) False
abbrev pN:=bU->Fr->ai->Prop
structure iW where
 exec:bg->Fr->ai->pN->Prop
 aq:List bu->Fr->ai->(Fr->ai->Prop)->Prop
 call:AV->List AV->ai->KV->Prop
abbrev OK:=iW->am AV->ai->KV->Prop
def eA(o:bC):OK:=λ_ aa H k=>il (aE o aa H) λp=>Prod.rec (motive:=λ_=>Prop) (λv H=>oO v λv=>k v H) p
def Ng(x:aK):OK:=λ_ aa H k=>ev aa x λv=>k v H
def Nh(aa:am AV)(H:ai)(k:KV)(a d:aK)(c:AV):Prop:=match c with
  |.bool t=>dj t (ev aa a λv=>k v H) (ev aa d λv=>k v H)
  |_=>False
def B6(c a d:aK):OK:=λ_ aa H k=>ev aa c (Nh aa H k a d)
def B7(a:Nat)(x:aK):OK:=λ_ aa H k=>ev aa x λv=>kQ v.cells λl=>dj (uB l) (pL H l (kR l) a λid H=>k (.aD id 0) H) False
def B8(a:Nat)(c:List AV):OK:=λ_ _ H k=>pL H c (kR c) a λid H=>k (.aD id 0) H
def B9(a len:Nat)(c:List AV)(dw:List (Nat×Nat×aK)):OK:=λ_ aa H k=>
 il (kp aa (ep c len) dw) λl=>kQ l λl=>dj (uB l) (pL H l (kR l) a λid H=>k (.slice id 0 len len true) H) False
def F7(off:Nat)(k:AV->Prop)(c:am AV)(n _e:Nat)(_rw:Bool)(_p:List af)(_fz:Nat):Prop:=dj (ae0 off n) (nC .agx c off k) False
def F8(H:ai)(k:KV)(a:AV):Prop:=qT a λid off=>sJ H id (F7 off λv=>k v H)
def B'(a:aK):OK:=λ_ aa H k=>ev aa a (F8 H k)
def Ca(n:Nat)(a:aK):OK:=λ_ aa H k=>ev aa a λa=>qT a λid off=>zq H id off n λl=>k (.agg l) H
def F9(n:Nat)(H:ai)(k:KV)(a:AV)(l:List AV):Prop:=qT a λid off=>dj (aeF (kR l) n) (uC H id off l λH=>k .agx H) False
def Cb(n:Nat)(a x:aK):OK:=λ_ aa H k=>ev aa a λa=>ev aa x λv=>kQ v.cells (F9 n H k a)
def Cc(op:BinOp)(j:Nat)(x y:aK):OK:=λ_ aa H k=>ev aa x λx=>ev aa y λy=>B5 op j x y λv=>k v H
def Cd(off:Nat)(x:aK):OK:=λ_ aa H k=>ev aa x λx=>qT x λid o=>dF (Nat.add o off) λo=>k (.aD id o) H
def Ga(size:Nat)(H:ai)(k:KV)(x i:AV):Prop:=match x,i with
  |.slice id o len _ _,.int _ (.ofNat j)=>dj (ae0 j len) (dF (Nat.add o (Nat.mul j size)) λo=>k (.aD id o) H) False
  |_,_=>False
def Ce(size:Nat)(x i:aK):OK:=λ_ aa H k=>ev aa x λx=>ev aa i λi=>Ga size H k x i
def Cf:OK:=λ_ _ H k=>ls H (.map [] 0) λid H=>k (.map id) H
def Gb(a bytes size:Nat)(d:List AV)(H:ai)(k:KV)(len cap:AV):Prop:=match len,cap with
  |.int 3 (.ofNat l),.int 3 (.ofNat c)=>
   dj (kr (afx l c) (kr (dG (c*bytes)) (dG c))) (kQ (ep d c) λd=>pL H d (c*size) a λid H=>k (.slice id 0 l c true) H) False
  |_,_=>False
def Cg(a bytes size:Nat)(c:List AV)(len cap:aK):OK:=λ_ aa H k=>ev aa len λlen=>ev aa cap λcap=>Gb a bytes size c H k len cap
def Gc(a:Nat)(H:ai)(k:KV)(x:AV):Prop:=match x with
  |.str s=>kQ (s.map λn=>.int 4 (.ofNat n)) λl=>pL H l s.length a λid H=>dF s.length λn=>k (.slice id 0 n n false) H
  |_=>False
def Ci(a:Nat)(x:aK):OK:=λ_ aa H k=>ev aa x (Gc a H k)
def Gd(a bytes size:Nat)(c:List AV)(H:ai)(s:AV)(k:KV)(x:AV):Prop:=match x with
  |.int 3 (.ofNat n)=>dj (kr (dG (n*bytes)) (dG n)) (kQ (ep c n) λl=>wZ a bytes size H s n l k) False
  |_=>False
def Ni(a bytes size:Nat)(H:ai)(s:AV)(k:KV)(p:Nat×List AV):Prop:=Prod.rec (motive:=λ_=>Prop) (λn l=>dF n λn=>kQ l λl=>wZ a bytes size H s n l k) p
def Cj(c bytes size:Nat)(d:List AV)(a:Bool)(s x:aK):OK:=λ_ aa H k=>ev aa s λs=>ev aa x λx=>
   dj a (Gd c bytes size d H s k x) (il (fB H size x) (Ni c bytes size H s k))
def Ck(size:Nat)(H:ai)(k:KV)(d:AV)(n:Nat)(l:List AV):Prop:=match d with
  |.aG=>k (.int 3 (.ofNat 0)) H
  |.slice id off len _ _=>dF (min n len) λm=>dj (aeF m 0) (k (.int 3 (.ofNat 0)) H)
     (kQ (l.take (m*size)) λl=>uC H id off l λH=>k (.int 3 (.ofNat m)) H)
  |_=>False
def Cl(size:Nat)(d s:aK):OK:=λ_ aa H k=>ev aa d λd=>ev aa s λs=>il (fB H size s) λp=>Prod.rec (motive:=λ_=>Prop) (Ck size H k d) p
def Ge(H:ai)(k:KV)(x:AV):Prop:=match x with
  |.str s=>ls H (.jN s s 0) λid H=>k (.aD id 0) H
  |_=>False
def Cm(x:aK):OK:=λ_ aa H k=>ev aa x (Ge H k)
def Gf(H:ai)(k:KV)(x:AV):Prop:=match x with
  |.d9=>ls H (.mapIter none 0 [] 0) λid H=>k (.aD id 0) H
  |.map m=>wX H m λo=>match o with
   |.map _ a=>ls H (.mapIter (some m) a [] a) λid H=>k (.aD id 0) H
   |_=>False
  |_=>False
def Cn(x:aK):OK:=λ_ aa H k=>ev aa x (Gf H k)
def Gg(H:ai)(d:AV)(k:KV):Prop:=match pK H d with
  |some (cs,a)=>∀i,i<cs.length->match cs[i]? with
   |some c=>k (a c).1 (a c).2
   |none=>False
  |none=>False
def Nj(a:aK):OK:=λ_ aa H k=>ev aa a λa=>Gg H a k
def Nk(f:aK)(args:List aK):OK:=λa aa H k=>ev aa f λf=>zo aa args λargs=>a.call f args H k
def Co(l:List AV):Nat->(AV->Prop)->Prop:=agr (motive:=λ_=>Nat->(AV->Prop)->Prop) (λ_ _=>False) (λv _ a n k=>Nat.rec (motive:=λ_=>Prop) (k v) (λn _=>a n k) n) l
def Gh(i:Nat)(H:ai)(k:KV)(x:AV):Prop:=match x with
  |.tuple l=>Co l i λv=>k v H
  |_=>False
def Cp(x:aK)(i:Nat):OK:=λ_ aa H k=>ev aa x (Gh i H k)
def Gi(H:ai)(k:KV)(x:AV):Prop:=match x with
  |.aD id off=>k (.aD id off) H
  |.func f a g=>k (.func f a g) H
  |.yield l=>k (.yield l) H
  |.iface t v=>k (.iface t v) H
  |.map m=>k (.map m) H
  |.slice a g c d e=>k (.slice a g c d e) H
  |_=>False
def Cq(x:aK):OK:=λ_ aa H k=>ev aa x (Gi H k)
def Gj(H:ai)(k:KV)(x:AV):Prop:=match x with
  |.slice _ _ n _ _=>k (.int 3 (.ofNat n)) H
  |.aG=>k (.int 3 (.ofNat 0)) H
  |_=>False
def Cr(x:aK):OK:=λ_ aa H k=>ev aa x (Gj H k)
def uD(o:bC):OK:=bC.rec (motive:=λ_=>OK)
  Ng
  B6
  B7
  B8
  (λg dw=>eA (.build g dw))
  B9
  B'
  Ca
  Cb
  Cq
  Cc
  (λop x y=>eA (.shift op x y))
  (λop x y=>eA (.km op x y))
  (λneg d x y=>eA (.eq neg d x y))
  (λop x=>eA (.unary op x))
  (λk x=>eA (.jM k x))
  Ci
  (λx=>eA (.nf x))
  (λx=>eA (.wT x))
  (λt x=>eA (.sA t x))
  (λf first a=>eA (.mu f first a))
  Cf
  Cg
  (λn size x lo hi h=>eA (.uo n size x lo hi h))
  (λe size x lo hi h=>eA (.gp e size x lo hi h))
  (λx lo hi=>eA (.sB x lo hi))
  Cd
  (λagg off size x=>eA (.part agg off size x))
  (λn size x i=>eA (.sC n size x i))
  Ce
  (λagg n size x i=>eA (.wU agg n size x i))
  (λx i=>eA (.mw x i))
  (λkey zero ok m k=>eA (.lookup key zero ok m k))
  (λkey m k v=>eA (.iV key m k v))
  (λkey zero m k=>eA (.mapEntry key zero m k))
  (λm s v=>eA (.entryStore m s v))
  Cm
  (λj=>eA (.qQ j))
  Cn
  Nj
  (λj=>eA (.pJ j))
  (eA .lq)
  (λt zero ok x=>eA (.typeAssert t zero ok x))
  Cp
  (λn=>eA (.uq n))
  (λx=>eA (.nj x))
  Cr
  (λx=>eA (.sD x))
  (λx=>eA (.cap x))
  Cj
  Cl
  (λg x=>eA (.ur g x))
  (λx=>eA (.ut x))
  (λkey m k=>eA (.delete key m k))
  (λc l=>eA (.nk c l))
  (λm ks=>eA (.fill m ks))
  Nk o
def uE(j:bU)(x:Prop)(y:Nat->Prop)(z:Prop):Prop:=bU.rec (motive:=λ_=>Prop) x y z j
def w7(fr:Fr)(k:am AV->List af->Option af->Prop):Prop:=Fr.rec (motive:=λ_=>Prop) k fr
def zu(v:AV)(t f:Prop):Prop:=match v with
 |.bool a=>dj a t f
 |_=>False
def zw(aa:am AV)(d:Option af)(v:AV)(k:am AV->Prop):Prop:=
 Option.rec (motive:=λ_=>Prop) (k aa) (λp=>sH .agx p v aa k) d
def Cs(aa:am AV)(H:ai)(l:List fU)(x:Prop):Prop:=
 agr (motive:=λ_=>Prop) x (λp l _=>dj (dl aa H (p::l)) x False) l
def zx(aa:am AV)(g:Option (af×Bool))(x y:Prop):Prop:=
 Option.rec (motive:=λ_=>Prop) x (λg=>dj (dc aa (some g)) x (dj (iM aa (some g)) y False)) g
def Ct(l:List AV):af->am AV->(am AV->Prop)->Prop:=
 agr (motive:=λ_=>af->am AV->(am AV->Prop)->Prop) (λ_ t k=>k t) (λv _ a p t k=>sH .agx p v t λt=>wV p λp=>a p t k) l
def w8(aa:am AV)(H:ai)(l:List fM):(List AV->Prop)->Prop:=
 agr (motive:=λ_=>(List AV->Prop)->Prop) (λk=>k [])
   (λr _ c k=>fM.rec (motive:=λ_=>Prop) (λp=>sG .agx p aa λv=>c λl=>k (v::l))
    (λp agg n=>sG .agx p aa λa=>il (gz H a n agg) λv=>oO v λv=>c λl=>k (v::l)) r) l
def Cu(l:List AV)(k:AV->Prop):Prop:=agr (motive:=λ_=>Prop) (k (.tuple [])) (λv m _=>agr (motive:=λ_=>Prop) (k v) (λ_ _ _=>k (.tuple l)) m) l
def Cv(H:ai)(l:List af)(k:ai->Prop):Prop:=agr (motive:=λ_=>Prop) (k H) (λi l _=>il (gV H (i::l)) k) l
abbrev LK:=oM->bU->Nat->am AV->List af->bg->bg->af->Prop
def Nl(k:LK)(o:bO):Prop:=
 bO.rec (motive:=λ_=>Prop) False (λ_ _ _ _ _ _=>False) (λ_ _=>False) (λ_=>False) (λ_ _ _=>False) k (λ_=>False) (λ_ _ _ _=>False) o
def pO(H:ai)(id:af)(k:LK):Prop:=wX H id (Nl k)
def xe(st:oM)(ready busy zy:Prop):Prop:=oM.rec (motive:=λ_=>Prop) ready busy zy zy st
abbrev CK:=iW->Fr->ai->pN->Prop
def Nn:CK:=λ_ fr H K=>K .none fr H
def sK(l:List bu):CK:=λa fr H K=>a.aq l fr H (K .none)
def uF(a:iW)(c:bg)(K:pN)(j:bU)(fr:Fr)(H:ai):Prop:=uE j (a.exec c fr H K) (λi=>K (.exit i) fr H) (K .ret fr H)
def No(a d:bg):CK:=λc fr H K=>c.exec a fr H (uF c d K)
def Np(c:aK)(a e:bg):CK:=λd fr H K=>w7 fr λaa _ _=>ev aa c λv=>zu v (d.exec a fr H K) (d.exec e fr H K)
def Cw(id:Nat)(K:pN)(j:bU)(fr:Fr)(H:ai):Prop:=uE j (K .none fr H) (λi=>dj (aeF i id) (K .none fr H) (K (.exit i) fr H)) (K .ret fr H)
def Nq(id:Nat)(c:bg):CK:=λa fr H K=>a.exec c fr H (Cw id K)
def Nr(c:bg):CK:=λa fr H K=>a.exec c fr H (uF a (.loop c) K)
def Cy(fr:Fr)(l:af)(K:pN)(c:ai)(bP:bU)(fn:Nat)(aa:am AV)(e:List af)(as f:bg)(d:af):Prop:=
 nD c l (.loop .exhausted bP fn aa e as f d) λa=>K bP fr a
def uG(f:iW)(aa:am AV)(params:List af)(assign body:bg)(fv:AV)(K:pN)(fr:Fr)(H:ai)(d:af):Prop:=
 ls H (.loop .ready .none 0 aa params assign body d) λl H=>
  f.call fv [.yield l] H λ_ a=>pO a l λst bP fn aa c as e d=>
   xe st (Cy fr l K a bP fn aa c as e d) False (Cy fr l K a bP fn aa c as e d)
def Nt(f:aK)(params:List af)(assign body:bg):CK:=λa fr H K=>w7 fr λaa bz bB=>ev aa f λfv=>
 Option.rec (motive:=λ_=>Prop) (ls H (.deferred false) λm H=>uG a aa params assign body fv K ⟨aa,m::bz,bB⟩ H m)
   (λl=>pO H l λ_ _ _ _ _ _ _ d=>uG a aa params assign body fv K fr H d) bB
def Nu(id:Nat):CK:=λ_ fr H K=>K (.exit id) fr H
def Nv:CK:=λ_ fr H K=>K .ret fr H
def zA(fr:Fr)(H:ai)(K:pN)(g:am AV->ai->Option (am AV×ai)):Prop:=
 w7 fr λaa bz bB=>il (g aa H) λp=>Prod.rec (motive:=λ_=>Prop) (λaa H=>K .none ⟨aa,bz,bB⟩ H) p
def Nw(ac:am aX)(t:Nat):CK:=λ_ fr H K=>nC .none ac t λg=>aX.rec (motive:=λ_=>Prop) False (λ_ _ _=>False) (λ_=>False) (zA fr H K) g
def Nx(ac:am aX)(c:bg):CK:=bg.rec (motive:=λ_=>CK) Nn sK (λa e _ _=>No a e) (λc a e _ _=>Np c a e) (λid e _=>Nq id e) (λe _=>Nr e)
  (λf d a e _ _=>Nt f d a e) Nu Nv (Nw ac) c
def after(a:iW)(l:List bu)(K:Fr->ai->Prop)(dst:Option af)(re:List fU)(aa:am AV)(bz:List af)(bB:Option af)(v:AV)(H:ai):Prop:=
 zw aa dst v λaa=>Cs aa H re (a.aq l ⟨aa,bz,bB⟩ H K)
def fN(a:iW)(op:bC)(aa:am AV)(k:KV)(h:ai×List (af×bO)):Prop:=
 Prod.rec (motive:=λ_=>Prop) (λH s=>uD op a aa H λv H=>k v (cB H s)) h
def Cz(a:iW)(op:bC)(aa:am AV)(H:ai)(gu:List af)(k:KV):Prop:=
 agr (motive:=λ_=>Prop) (uD op a aa H k) (λp l _=>fN a op aa k (cS aa H (p::l))) gu
def Ny(a:iW)(l:List bu)(H:ai)(K:Fr->ai->Prop)(dst:Option af)(op:bC)(guard:Option (af×Bool))(gu:List af)(re:List fU)(aa:am AV)(bz:List af)(bB:Option af):Prop:=
 zx aa guard (Cz a op aa H gu (after a l K dst re aa bz bB)) (zw aa dst .agx λaa=>a.aq l ⟨aa,bz,bB⟩ H K)
def Nz(a:iW)(l:List bu)(fr:Fr)(H:ai)(K:Fr->ai->Prop)(dst:Option af)(op:bC)(guard:Option (af×Bool))(gu:List af)(re:List fU):Prop:=
 w7 fr (Ny a l H K dst op guard gu re)
def NA(a:iW)(fr:Fr)(H:ai)(K:Fr->ai->Prop)(o:bu)(l:List bu)(_:Prop):Prop:=bu.rec (motive:=λ_=>Prop) (Nz a l fr H K) o
def NB(a:iW)(l:List bu)(fr:Fr)(H:ai)(K:Fr->ai->Prop):Prop:=agr (motive:=λ_=>Prop) (K fr H) (NA a fr H K) l
def CB(results:List fM)(K:KV)(fr:Fr)(H:ai):Prop:=w7 fr λaa bz _=>Cv H bz λH=>w8 aa H results λl=>Cu l λv=>K v H
def Gk(results:List fM)(K:KV)(j:bU)(fr:Fr)(H:ai):Prop:=uE j (CB results K fr H) (λ_=>False) (CB results K fr H)
def zB(a:iW)(H:ai)(K:KV)(all:List AV)(c:Nat)(results:List fM)(body:bg):Prop:=
 dj (afx (kR all) c) (Ct all .xH .aF λaa=>a.exec body ⟨aa,[],none⟩ H (Gk results K)) False
def zC(H:ai)(K:KV)(all:List AV)(g:List AV->ai->Option (AV×ai)):Prop:=
 il (g all H) λp=>Prod.rec (motive:=λ_=>Prop) (λv H=>oO v λv=>K v H) p
def NC(ac:am aX)(c:iW)(args:List AV)(H:ai)(K:KV)(f:Nat)(first a:List AV):Prop:=
 nC .none ac f λg=>kQ (first++args++a) λall=>aX.rec (motive:=λ_=>Prop) False (zB c H K all) (zC H K all) (λ_=>False) g
def CC(l:af)(K:KV)(j:bU)(_:Fr)(H:ai):Prop:=
 pO H l λ_ _ fn aa a as c d=>
  uE j (nD H l (.loop .ready .none fn aa a as c d) λH=>K (.bool true) H)
    (λ_=>nD H l (.loop .done j fn aa a as c d) λH=>K (.bool false) H)
    (nD H l (.loop .done j fn aa a as c d) λH=>K (.bool false) H)
def Gl(c:iW)(l:af)(a:bg)(K:KV)(fr:Fr)(H:ai):Prop:=
 pO H l λst bP fn aa e as f d=>xe st
   (nD H l (.loop .busy bP fn aa e as f d) λH=>c.exec a fr H (CC l K)) False False
def xf(c:iW)(l:af)(a:bg)(K:KV)(j:bU)(fr:Fr)(H:ai):Prop:=uE j (Gl c l a K fr H) (λ_=>False) False
def CD(a:iW)(args:List AV)(H:ai)(K:KV)(l:af):Prop:=
 pO H l λst _ _ aa c as d _=>xe st
   (dj (aeF (kR args) (kR c)) (a.exec as ⟨kq c args aa,[],some l⟩ H (xf a l d K)) False) False False
def ND(ac:am aX)(c:iW)(f:AV)(args:List AV)(H:ai)(K:KV):Prop:=
 match f with
 |.func f first a=>NC ac c args H K f first a
 |.yield l=>CD c args H K l
 |_=>False
def dp(ac:am aX)(n:Nat):iW:=Nat.rec (motive:=λ_=>iW)
  ⟨λ_ _ _ _=>False,λ_ _ _ _=>False,λ_ _ _ _=>False⟩
  (λ_ a=>⟨λc fr H K=>Nx ac c a fr H K,NB a,ND ac a⟩) n
end
end Go.ak.K
end
