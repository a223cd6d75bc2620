/- A part of the proof. No conditions. -/
import Derived.Test.YtjhkgigolpfcfaaGreatDoorA00
set_option linter.all false
open List renaming rec->alL
open Nat renaming beq->akb,blt->akv,ble->ak2
noncomputable section
namespace Go.am.K
section
variable{h:Type}
abbrev KV:=AV->ai->Prop
def fj(n:Nat)(k:Nat->Prop):Prop:=Nat.rec (motive:=λ_=>Prop) (k Nat.zero) (λm _=>k (Nat.succ m)) n
def oK(n:Int)(k:Int->Prop):Prop:=
 Int.rec (motive:=λ_=>Prop) (λm=>fj m λm=>k (.ofNat m)) (λm=>fj m λm=>k (.negSucc m)) n
def rH(p:ab):(ab->Prop)->Prop:=
 ab.rec (motive:=λ_=>(ab->Prop)->Prop) (λk=>k .xH) (λ_ a k=>a λp=>k (.xO p)) (λ_ a k=>a λp=>k (.xI p)) p
def Bd(p:ab):(ab->Prop)->Prop:=
 ab.rec (motive:=λ_=>(ab->Prop)->Prop) (λk=>k (.xO .xH)) (λp _ k=>k (.xI p)) (λ_ a k=>a λp=>k (.xO p)) p
def eW(b:Bool)(x y:Prop):Prop:=Bool.rec (motive:=λ_=>Prop) y x b
def zh(b:Bool)(k:Bool->Prop):Prop:=Bool.rec (motive:=λ_=>Prop) (k false) (k true) b
def xl(d:h)(p:ab):ap h->(h->Prop)->Prop:=ab.rec (motive:=λ_=>ap h->(h->Prop)->Prop)
  (λt k=>ap.rec (motive:=λ_=>Prop) (k d) (λ_ v _ _ _=>k v) t)
  (λ_ a t k=>ap.rec (motive:=λ_=>Prop) (k d) (λl _ _ _ _=>a l k) t)
  (λ_ a t k=>ap.rec (motive:=λ_=>Prop) (k d) (λ_ _ r _ _=>a r k) t) p
def xm(d:h)(p:ab):h->ap h->(ap h->Prop)->Prop:=ab.rec (motive:=λ_=>h->ap h->(ap h->Prop)->Prop)
  (λv t k=>ap.rec (motive:=λ_=>Prop) (k (.node .aL v .aL)) (λl _ r _ _=>k (.node l v r)) t)
  (λ_ a v t k=>ap.rec (motive:=λ_=>Prop) (a v .aL λl=>k (.node l d .aL)) (λl w r _ _=>a v l λl=>k (.node l w r)) t)
  (λ_ a v t k=>ap.rec (motive:=λ_=>Prop) (a v .aL λr=>k (.node .aL d r)) (λl w r _ _=>a v r λr=>k (.node l w r)) t) p
def rI(d:h)(t:ap h):Nat->(h->Prop)->Prop:=ap.rec (motive:=λ_=>Nat->(h->Prop)->Prop)
  (λ_ k=>k d)
  (λ_ v _ a b n k=>Nat.rec (motive:=λ_=>Prop) (k v) (λm _=>eW (akb (Nat.mod m 2) 0) (a (Nat.div m 2) k) (b (Nat.div m 2) k)) n) t
def FE(d:h)(x:h)(t:ap h)(k:ap h->Prop):Prop:=ap.rec (motive:=λ_=>Prop) (k (.node .aL x .aL)) (λl _ r _ _=>k (.node l x r)) t
def lK(d:h)(a:Nat->h->ap h->(ap h->Prop)->Prop)(m:Nat)(x:h)(t:ap h)(k:ap h->Prop):Prop:=
 ap.rec (motive:=λ_=>Prop) (a m x .aL λl=>k (.node l d .aL)) (λl w r _ _=>a m x l λl=>k (.node l w r)) t
def rK(d:h)(a:Nat->h->ap h->(ap h->Prop)->Prop)(m:Nat)(x:h)(t:ap h)(k:ap h->Prop):Prop:=
 ap.rec (motive:=λ_=>Prop) (a m x .aL λr=>k (.node .aL d r)) (λl w r _ _=>a m x r λr=>k (.node l w r)) t
def xn(d:h)(f:Nat):Nat->h->ap h->(ap h->Prop)->Prop:=Nat.rec (motive:=λ_=>Nat->h->ap h->(ap h->Prop)->Prop)
  (λn x t k=>Nat.rec (motive:=λ_=>Prop) (FE d x t k) (λ_ _=>k t) n)
  (λ_ a n x t k=>Nat.rec (motive:=λ_=>Prop) (FE d x t k) (λm _=>eW (akb (Nat.mod m 2) 0) (lK d a (Nat.div m 2) x t k) (rK d a (Nat.div m 2) x t k)) n) f
def Dg(l:List Nat):(List Nat->Prop)->Prop:=alL (motive:=λ_=>(List Nat->Prop)->Prop) (λk=>k []) (λn _ a k=>fj n λn=>a λl=>k (n::l)) l
def sN(v:AV):(AV->Prop)->Prop:=
 AV.rec (motive_1:=λ_=>(AV->Prop)->Prop) (motive_2:=λ_=>(List AV->Prop)->Prop)
   (λ_ c k=>c λl=>k (.tuple l))
   (λ_ c k=>c λl=>k (.agg l))
   (λb k=>zh b λb=>k (.bool b))
   (λj n k=>fj j λj=>oK n λn=>k (.int j n))
   (λs k=>Dg s λs=>k (.str s))
   (λid off k=>rH id λid=>fj off λoff=>k (.az id off))
   (λk=>k .lS)
   (λid off len cap ex k=>rH id λid=>fj off λoff=>fj len λlen=>fj cap λcap=>zh ex λex=>k (.slice id off len cap ex))
   (λk=>k .aS)
   (λid k=>rH id λid=>k (.map id))
   (λk=>k .cY)
   (λf _ _ d e k=>fj f λf=>d λa=>e λb=>k (.func f a b))
   (λid k=>rH id λid=>k (.yield id))
   (λk=>k .nilFunc)
   (λt _ c k=>fj t λt=>c λv=>k (.iface t v))
   (λk=>k .nilIface)
   (λk=>k .co)
   (λk=>k [])
   (λ_ _ g i k=>g λv=>i λl=>k (v::l)) v
def oM(l:List AV):(List AV->Prop)->Prop:=alL (motive:=λ_=>(List AV->Prop)->Prop) (λk=>k []) (λv _ a k=>sN v λv=>a λl=>k (v::l)) l
def gC(aa:ap AV)(x:aJ)(k:AV->Prop):Prop:=aJ.rec (motive:=λ_=>Prop) (λp=>xl .alR p aa k) k x
def Dh(aa:ap AV)(l:List aJ):(List AV->Prop)->Prop:=
 alL (motive:=λ_=>(List AV->Prop)->Prop) (λk=>k []) (λx _ a k=>gC aa x λv=>a λl=>k (v::l)) l
def j9(o:Option h)(k:h->Prop):Prop:=Option.rec (motive:=λ_=>Prop) False k o
def Be(H:ai)(id:ab)(k:cq->Prop):Prop:=ai.rec (motive:=λ_=>Prop) (λt _=>xl .none id t k) H
def rJ(H:ai)(id:ab)(o:cq)(k:ai->Prop):Prop:=ai.rec (motive:=λ_=>Prop) (λt n=>xm .none id o t λt=>k ⟨t,n⟩) H
def pO(H:ai)(o:cq)(k:ab->ai->Prop):Prop:=
 ai.rec (motive:=λ_=>Prop) (λt n=>xm .none n o t λt=>Bd n λm=>k n ⟨t,m⟩) H
def FF(l:List ab):ai->(ai->Prop)->Prop:=
 alL (motive:=λ_=>ai->(ai->Prop)->Prop) (λH k=>k H) (λi _ a H k=>rJ H i .none λH=>a H k) l
def Rv(k:ap AV->Nat->Nat->Bool->List ab->Nat->Prop)(o:cq):Prop:=
 cq.rec (motive:=λ_=>Prop) False k (λ_ _=>False) (λ_=>False) (λ_ _ _=>False) (λ_ _ _ _ _ _ _ _=>False) (λ_=>False) (λ_ _ _ _=>False) o
def xp(H:ai)(id:ab)(k:ap AV->Nat->Nat->Bool->List ab->Nat->Prop):Prop:=Be H id (Rv k)
def Di(c:ap AV)(n m:Nat):Nat->(List AV->Prop)->Prop:=
 Nat.rec (motive:=λ_=>Nat->(List AV->Prop)->Prop) (λ_ k=>k [])
   (λ_ a off k=>eW (akv off n) (fj off λoff=>rI .alR c off λv=>a (Nat.succ off) λl=>k (v::l)) False) m
def Bf(l:List AV):ap AV->Nat->(ap AV->Prop)->Prop:=
 alL (motive:=λ_=>ap AV->Nat->(ap AV->Prop)->Prop) (λc _ k=>k c) (λv _ a c off k=>fj off λoff=>xn .alR off off v c λc=>a c (Nat.succ off) k) l
def Dj(H:ai)(id:ab)(off m:Nat)(k:List AV->Prop):Prop:=
 xp H id λc n _ _ _ _=>Di c n m off k
def nB(a b:Bool):Bool:=Bool.rec (motive:=λ_=>Bool) false b a
def zi(l:List AV):Bool:=alL (motive:=λ_=>Bool) true (λv _ a=>nB v.ee a) l
def oN(l:List h):Nat:=alL (motive:=λ_=>Nat) Nat.zero (λ_ _ a=>Nat.succ a) l
def FG(H:ai)(id:ab)(off:Nat)(l:List AV)(k:ai->Prop)(c:ap AV)(n e:Nat)(rw:Bool)(aM:List ab)(fz:Nat):Prop:=
 eW (nB rw (nB (ak2 fz off) (nB (ak2 (Nat.add off (oN l)) n) (zi l))))
     (FF aM H λH=>Bf l c off λc=>rJ H id (.cells c n e true [] fz) k) False
def zj(H:ai)(id:ab)(off:Nat)(l:List AV)(k:ai->Prop):Prop:=xp H id (FG H id off l k)
def xu(v:AV)(k:ab->Nat->Prop):Prop:=
 match v with
 |.az id off=>k id off
 |_=>False
def uu(H:ai)(l:List AV)(n a:Nat)(k:ab->ai->Prop):Prop:=
 Bf l .aL 0 λc=>fj n λn=>pO H (.cells c n a true [] 0) k
def FH(a bytes size:Nat)(H:ai)(n:Nat)(l:List AV)(k:KV):Prop:=
 eW (akb n 0) (k .aS H) (eW (nB (fw (n*bytes)) (fw n)) (uu H l (n*size) a λid H=>k (.slice id 0 n n false) H) False)
def KB(size:Nat)(H:ai)(n:Nat)(l:List AV)(k:KV)(id:ab)(off len cap:Nat)(exact:Bool)(a:Nat):Prop:=
 eW (akb n 0) (k (.slice id off a cap exact) H)
   (fj (Nat.add off (Nat.mul len size)) λbH=>zj H id bH l λH=>k (.slice id off a cap exact) H)
def KC(b size:Nat)(H:ai)(k:KV)(id:ab)(off cap:Nat)(a:Nat)(all:List AV)(c:ap AV)(m e:Nat)(rw:Bool)(aM:List ab)(fz:Nat):Prop:=
 eW (nB rw (nB (akb (Nat.add off (Nat.mul cap size)) m) (nB (akb e b) (ak2 fz m))))
   (rJ H id (.cells c m e false aM fz) λH=>
   Bf all .aL 0 λc=>fj (a*size) λd=>fj (fz - off) λfz=>pO H (.cells c d b true (id::aM) fz) λid H=>k (.slice id 0 a a false) H)
   False
def FI(b size:Nat)(H:ai)(l:List AV)(k:KV)(id:ab)(off len cap:Nat)(exact:Bool)(a:Nat)(c:ap AV)(m e:Nat)(rw:Bool)(aM:List ab)(fz:Nat):Prop:=
 Di c m (Nat.mul len size) off λdT=>oM (dT++l) λall=>
  eW exact (uu H all (a*size) b λid H=>k (.slice id 0 a a false) H) (eW (akb len cap) (KC b size H k id off cap a all c m e rw aM fz) False)
def FJ(b bytes size:Nat)(H:ai)(n:Nat)(l:List AV)(k:KV)(id:ab)(off len cap:Nat)(exact:Bool):Prop:=
 fj (Nat.add len n) λa=>eW (ak2 a cap) (KB size H n l k id off len cap exact a)
   (eW (nB (fw (a*bytes)) (fw a)) (xp H id (FI b size H l k id off len cap exact a)) False)
def Bg(a bytes size:Nat)(H:ai)(s:AV)(n:Nat)(l:List AV)(k:KV):Prop:=
 eW (zi l)
   (match s with
  |.aS=>FH a bytes size H n l k
  |.slice id off len cap exact=>FJ a bytes size H n l k id off len cap exact
  |_=>False)
   False
def KD(x y:AV)(k:Nat->Int->Nat->Int->Prop):Prop:=
 match x,y with
 |.int i a,.int j b=>k i a j b
 |_,_=>False
def KE(a b:Int)(k:Int->Prop):Prop:=
 Int.rec (motive:=λ_=>Prop) (λm=>Int.rec (motive:=λ_=>Prop) (λn=>fj (Nat.add m n) λs=>k (.ofNat s)) (λ_=>oK (a+b) k) b) (λ_=>oK (a+b) k) a
def KF(a b:Int)(k:Int->Prop):Prop:=
 Int.rec (motive:=λ_=>Prop) (λm=>Int.rec (motive:=λ_=>Prop) (λn=>eW (ak2 n m) (fj (Nat.sub m n) λs=>k (.ofNat s)) (oK (a - b) k)) (λ_=>oK (a - b) k) b) (λ_=>oK (a - b) k) a
def KG(n:Int)(k:Int->Prop):Prop:=
 Int.rec (motive:=λ_=>Prop) (λm=>eW (akv m 9223372036854775808) (k (.ofNat m)) (oK (iJ 3 n) k)) (λ_=>oK (iJ 3 n) k) n
def Dk(j:Nat)(n:Int)(k:Int->Prop):Prop:=eW (akb j 3) (KG n k) (oK (iJ j n) k)
def FK(a b:Int):Bool:=Int.rec (motive:=λ_=>Bool) (λm=>Int.rec (motive:=λ_=>Bool) (λn=>akb m n) (λ_=>false) b) (λm=>Int.rec (motive:=λ_=>Bool) (λ_=>false) (λn=>akb m n) b) a
def Bh(a b:Int):Bool:=Int.rec (motive:=λ_=>Bool) (λm=>Int.rec (motive:=λ_=>Bool) (λn=>akv m n) (λ_=>false) b) (λm=>Int.rec (motive:=λ_=>Bool) (λ_=>true) (λn=>akv n m) b) a
def Dl(b:Bool):Bool:=Bool.rec (motive:=λ_=>Bool) true false b
def rL(b:Bool)(k:AV->Prop):Prop:=Bool.rec (motive:=λ_=>Prop) (k (.bool false)) (k (.bool true)) b
abbrev AK:=Nat->Int->Int->(AV->Prop)->Prop
def FL:AK:=λj a b k=>KE a b λs=>Dk j s λs=>k (.int j s)
def FM:AK:=λj a b k=>KF a b λs=>Dk j s λs=>k (.int j s)
def uv(op:BinOp):AK:=λj a b k=>j9 (iK op j a b) λv=>sN v k
def KH:AK:=λ_ _ _ _=>False
def Rw:AK:=λ_ a b k=>rL (FK a b) k
def Rx:AK:=λ_ a b k=>rL (Dl (FK a b)) k
def Ry:AK:=λ_ a b k=>rL (Bh a b) k
def Rz:AK:=λ_ a b k=>rL (Dl (Bh b a)) k
def RA:AK:=λ_ a b k=>rL (Bh b a) k
def RB:AK:=λ_ a b k=>rL (Dl (Bh a b)) k
def FN(op:BinOp):AK:=BinOp.rec (motive:=λ_=>AK) FL FM (uv .mul) (uv .quo) (uv .rem) (uv .and) (uv .or) (uv .xor) KH KH (uv .andNot) Rw Rx Ry Rz RA RB op
def FO(op:BinOp)(j:Nat)(x y:AV)(k:AV->Prop):Prop:=
 KD x y λi a l b=>eW (nB (akb i j) (akb l j)) (FN op j a b k) False
abbrev uw:=cP->Fr->ai->Prop
structure kZ where
 exec:bt->Fr->ai->uw->Prop
 aC:List be->Fr->ai->(Fr->ai->Prop)->Prop
 call:AV->List AV->ai->KV->Prop
abbrev OK:=kZ->ap AV->ai->KV->Prop
def gR(o:bW):OK:=λ_ aa H k=>j9 (aE o aa H) λp=>Prod.rec (motive:=λ_=>Prop) (λv H=>sN v λv=>k v H) p
def RC(x:aJ):OK:=λ_ aa H k=>gC aa x λv=>k v H
def RD(aa:ap AV)(H:ai)(k:KV)(a b:aJ)(c:AV):Prop:=match c with
  |.bool t=>eW t (gC aa a λv=>k v H) (gC aa b λv=>k v H)
  |_=>False
def FP(c a b:aJ):OK:=λ_ aa H k=>gC aa c (RD aa H k a b)
def FQ(a:Nat)(x:aJ):OK:=λ_ aa H k=>gC aa x λv=>oM v.cells λl=>eW (zi l) (uu H l (oN l) a λid H=>k (.az id 0) H) False
def FS(a:Nat)(b:List AV):OK:=λ_ _ H k=>uu H b (oN b) a λid H=>k (.az id 0) H
def FT(a len:Nat)(b:List AV)(fi:List (Nat×Nat×aJ)):OK:=λ_ aa H k=>
 j9 (oI aa (fO b len) fi) λl=>oM l λl=>eW (zi l) (uu H l (oN l) a λid H=>k (.slice id 0 len len true) H) False
def KI(off:Nat)(k:AV->Prop)(c:ap AV)(n _e:Nat)(_rw:Bool)(_p:List ab)(_fz:Nat):Prop:=eW (akv off n) (rI .alR c off k) False
def KJ(H:ai)(k:KV)(a:AV):Prop:=xu a λid off=>xp H id (KI off λv=>k v H)
def FU(a:aJ):OK:=λ_ aa H k=>gC aa a (KJ H k)
def FW(n:Nat)(a:aJ):OK:=λ_ aa H k=>gC aa a λa=>xu a λid off=>Dj H id off n λl=>k (.agg l) H
def RE(n:Nat)(H:ai)(k:KV)(a:AV)(l:List AV):Prop:=xu a λid off=>eW (akb (oN l) n) (zj H id off l λH=>k .alR H) False
def FY(n:Nat)(a x:aJ):OK:=λ_ aa H k=>gC aa a λa=>gC aa x λv=>oM v.cells (RE n H k a)
def FZ(op:BinOp)(j:Nat)(x y:aJ):OK:=λ_ aa H k=>gC aa x λx=>gC aa y λy=>FO op j x y λv=>k v H
def F1(off:Nat)(x:aJ):OK:=λ_ aa H k=>gC aa x λx=>xu x λid o=>fj (Nat.add o off) λo=>k (.az id o) H
def RF(size:Nat)(H:ai)(k:KV)(x i:AV):Prop:=match x,i with
  |.slice id o len _ _,.int _ (.ofNat j)=>eW (akv j len) (fj (Nat.add o (Nat.mul j size)) λo=>k (.az id o) H) False
  |_,_=>False
def F3(size:Nat)(x i:aJ):OK:=λ_ aa H k=>gC aa x λx=>gC aa i λi=>RF size H k x i
def F4:OK:=λ_ _ H k=>pO H (.map [] 0) λid H=>k (.map id) H
def KK(a bytes size:Nat)(b:List AV)(H:ai)(k:KV)(len cap:AV):Prop:=match len,cap with
  |.int 3 (.ofNat l),.int 3 (.ofNat c)=>
   eW (nB (ak2 l c) (nB (fw (c*bytes)) (fw c))) (oM (fO b c) λb=>uu H b (c*size) a λid H=>k (.slice id 0 l c true) H) False
  |_,_=>False
def F5(a bytes size:Nat)(b:List AV)(len cap:aJ):OK:=λ_ aa H k=>gC aa len λlen=>gC aa cap λcap=>KK a bytes size b H k len cap
def RG(a:Nat)(H:ai)(k:KV)(x:AV):Prop:=match x with
  |.str s=>oM (s.map λn=>.int 4 (.ofNat n)) λl=>uu H l s.length a λid H=>fj s.length λn=>k (.slice id 0 n n false) H
  |_=>False
def F6(a:Nat)(x:aJ):OK:=λ_ aa H k=>gC aa x (RG a H k)
def KL(a bytes size:Nat)(b:List AV)(H:ai)(s:AV)(k:KV)(x:AV):Prop:=match x with
  |.int 3 (.ofNat n)=>eW (nB (fw (n*bytes)) (fw n)) (oM (fO b n) λl=>Bg a bytes size H s n l k) False
  |_=>False
def RH(a bytes size:Nat)(H:ai)(s:AV)(k:KV)(p:Nat×List AV):Prop:=Prod.rec (motive:=λ_=>Prop) (λn l=>fj n λn=>oM l λl=>Bg a bytes size H s n l k) p
def F7(b bytes size:Nat)(c:List AV)(a:Bool)(s x:aJ):OK:=λ_ aa H k=>gC aa s λs=>gC aa x λx=>
   eW a (KL b bytes size c H s k x) (j9 (je H size x) (RH b bytes size H s k))
def F8(size:Nat)(H:ai)(k:KV)(d:AV)(n:Nat)(l:List AV):Prop:=match d with
  |.aS=>k (.int 3 (.ofNat 0)) H
  |.slice id off len _ _=>fj (min n len) λm=>eW (akb m 0) (k (.int 3 (.ofNat 0)) H)
     (oM (l.take (m*size)) λl=>zj H id off l λH=>k (.int 3 (.ofNat m)) H)
  |_=>False
def F9(size:Nat)(d s:aJ):OK:=λ_ aa H k=>gC aa d λd=>gC aa s λs=>j9 (je H size s) λp=>Prod.rec (motive:=λ_=>Prop) (F8 size H k d) p
def KM(H:ai)(k:KV)(x:AV):Prop:=match x with
  |.str s=>pO H (.pf s s 0) λid H=>k (.az id 0) H
  |_=>False
def Ga(x:aJ):OK:=λ_ aa H k=>gC aa x (KM H k)
def KN(H:ai)(k:KV)(x:AV):Prop:=match x with
  |.cY=>pO H (.mapIter none 0 [] 0) λid H=>k (.az id 0) H
  |.map m=>Be H m λo=>match o with
   |.map _ a=>pO H (.mapIter (some m) a [] a) λid H=>k (.az id 0) H
   |_=>False
  |_=>False
def Gb(x:aJ):OK:=λ_ aa H k=>gC aa x (KN H k)
def KO(H:ai)(b:AV)(k:KV):Prop:=match ut H b with
  |some (cs,a)=>∀i,i<cs.length->match cs[i]? with
   |some c=>k (a c).1 (a c).2
   |none=>False
  |none=>False
def RI(a:aJ):OK:=λ_ aa H k=>gC aa a λa=>KO H a k
def RK(f:aJ)(args:List aJ):OK:=λa aa H k=>gC aa f λf=>Dh aa args λargs=>a.call f args H k
def Gc(l:List AV):Nat->(AV->Prop)->Prop:=alL (motive:=λ_=>Nat->(AV->Prop)->Prop) (λ_ _=>False) (λv _ a n k=>Nat.rec (motive:=λ_=>Prop) (k v) (λn _=>a n k) n) l
def RL(i:Nat)(H:ai)(k:KV)(x:AV):Prop:=match x with
  |.tuple l=>Gc l i λv=>k v H
  |_=>False
def Gd(x:aJ)(i:Nat):OK:=λ_ aa H k=>gC aa x (RL i H k)
def RM(H:ai)(k:KV)(x:AV):Prop:=match x with
  |.az id off=>k (.az id off) H
  |.func f a b=>k (.func f a b) H
  |.yield l=>k (.yield l) H
  |.iface t v=>k (.iface t v) H
  |.map m=>k (.map m) H
  |.slice a b c d e=>k (.slice a b c d e) H
  |_=>False
def Ge(x:aJ):OK:=λ_ aa H k=>gC aa x (RM H k)
def RN(H:ai)(k:KV)(x:AV):Prop:=match x with
  |.slice _ _ n _ _=>k (.int 3 (.ofNat n)) H
  |.aS=>k (.int 3 (.ofNat 0)) H
  |_=>False
def Gf(x:aJ):OK:=λ_ aa H k=>gC aa x (RN H k)
def zk(o:bW):OK:=bW.rec (motive:=λ_=>OK)
  RC
  FP
  FQ
  FS
  (λe fi=>gR (.build e fi))
  FT
  FU
  FW
  FY
  Ge
  FZ
  (λop x y=>gR (.shift op x y))
  (λop x y=>gR (.iE op x y))
  (λneg d x y=>gR (.eq neg d x y))
  (λop x=>gR (.unary op x))
  (λk x=>gR (.kX k x))
  F6
  (λx=>gR (.xg x))
  (λx=>gR (.A7 x))
  (λt x=>gR (.lT t x))
  (λf first a=>gR (.iP f first a))
  F4
  F5
  (λn size x lo hi g=>gR (.zc n size x lo hi g))
  (λc size x lo hi g=>gR (.im c size x lo hi g))
  (λx lo hi=>gR (.xi x lo hi))
  F1
  (λagg off size x=>gR (.part agg off size x))
  (λn size x i=>gR (.sJ n size x i))
  F3
  (λagg n size x i=>gR (.A8 agg n size x i))
  (λx i=>gR (.nu x i))
  (λkey zero ok m k=>gR (.lookup key zero ok m k))
  (λkey m k v=>gR (.jy key m k v))
  (λkey zero m k=>gR (.mapEntry key zero m k))
  (λm s v=>gR (.entryStore m s v))
  Ga
  (λj=>gR (.vJ j))
  Gb
  RI
  (λj=>gR (.um j))
  (gR .pM)
  (λt zero ok x=>gR (.typeAssert t zero ok x))
  Gd
  (λn=>gR (.qC n))
  (λx=>gR (.kH x))
  Gf
  (λx=>gR (.xj x))
  (λx=>gR (.cap x))
  F7
  F9
  (λe x=>gR (.zd e x))
  (λx=>gR (.ze x))
  (λkey m k=>gR (.delete key m k))
  (λb l=>gR (.qD b l))
  RK o
def zl(j:cP)(x:Prop)(y:Nat->Prop)(z:Prop):Prop:=cP.rec (motive:=λ_=>Prop) x y z j
def Bi(fr:Fr)(k:ap AV->List ab->Option ab->Prop):Prop:=Fr.rec (motive:=λ_=>Prop) k fr
def Gg(v:AV)(t f:Prop):Prop:=match v with
 |.bool b=>eW b t f
 |_=>False
def Dm(aa:ap AV)(d:Option ab)(v:AV)(k:ap AV->Prop):Prop:=
 Option.rec (motive:=λ_=>Prop) (k aa) (λp=>xm .alR p v aa k) d
def KP(aa:ap AV)(H:ai)(l:List jo)(x:Prop):Prop:=
 alL (motive:=λ_=>Prop) x (λp l _=>eW (fG aa H (p::l)) x False) l
def Gh(aa:ap AV)(g:Option (ab×Bool))(x y:Prop):Prop:=
 Option.rec (motive:=λ_=>Prop) x (λg=>eW (fF aa (some g)) x (eW (lX aa (some g)) y False)) g
def Gi(l:List AV):ab->ap AV->(ap AV->Prop)->Prop:=
 alL (motive:=λ_=>ab->ap AV->(ap AV->Prop)->Prop) (λ_ t k=>k t) (λv _ a p t k=>xm .alR p v t λt=>Bd p λp=>a p t k) l
def Bj(aa:ap AV)(H:ai)(l:List iW):(List AV->Prop)->Prop:=
 alL (motive:=λ_=>(List AV->Prop)->Prop) (λk=>k [])
   (λr _ b k=>iW.rec (motive:=λ_=>Prop) (λp=>xl .alR p aa λv=>b λl=>k (v::l))
    (λp agg n=>xl .alR p aa λa=>j9 (jp H a n agg) λv=>sN v λv=>b λl=>k (v::l)) r) l
def Gj(l:List AV)(k:AV->Prop):Prop:=alL (motive:=λ_=>Prop) (k (.tuple [])) (λv m _=>alL (motive:=λ_=>Prop) (k v) (λ_ _ _=>k (.tuple l)) m) l
def Gk(H:ai)(l:List ab)(k:ai->Prop):Prop:=alL (motive:=λ_=>Prop) (k H) (λi l _=>j9 (jN H (i::l)) k) l
abbrev LK:=sK->cP->Nat->ap AV->List ab->bt->bt->ab->Prop
def RP(k:LK)(o:cq):Prop:=
 cq.rec (motive:=λ_=>Prop) False (λ_ _ _ _ _ _=>False) (λ_ _=>False) (λ_=>False) (λ_ _ _=>False) k (λ_=>False) (λ_ _ _ _=>False) o
def ux(H:ai)(id:ab)(k:LK):Prop:=Be H id (RP k)
def Bk(st:sK)(ready busy Do:Prop):Prop:=sK.rec (motive:=λ_=>Prop) ready busy Do Do st
abbrev CK:=kZ->Fr->ai->uw->Prop
def RQ:CK:=λ_ fr H K=>K .none fr H
def xw(l:List be):CK:=λa fr H K=>a.aC l fr H (K .none)
def zm(a:kZ)(b:bt)(K:uw)(j:cP)(fr:Fr)(H:ai):Prop:=zl j (a.exec b fr H K) (λi=>K (.exit i) fr H) (K .ret fr H)
def RR(a b:bt):CK:=λc fr H K=>c.exec a fr H (zm c b K)
def RS(c:aJ)(a b:bt):CK:=λd fr H K=>Bi fr λaa _ _=>gC aa c λv=>Gg v (d.exec a fr H K) (d.exec b fr H K)
def Gl(id:Nat)(K:uw)(j:cP)(fr:Fr)(H:ai):Prop:=zl j (K .none fr H) (λi=>eW (akb i id) (K .none fr H) (K (.exit i) fr H)) (K .ret fr H)
def RT(id:Nat)(b:bt):CK:=λa fr H K=>a.exec b fr H (Gl id K)
def RU(b:bt):CK:=λa fr H K=>a.exec b fr H (zm a (.loop b) K)
def Gm(fr:Fr)(l:ab)(K:uw)(b:ai)(cB:cP)(fn:Nat)(aa:ap AV)(c:List ab)(as e:bt)(d:ab):Prop:=
 rJ b l (.loop .exhausted cB fn aa c as e d) λa=>K cB fr a
def zn(e:kZ)(aa:ap AV)(params:List ab)(assign body:bt)(fv:AV)(K:uw)(fr:Fr)(H:ai)(d:ab):Prop:=
 pO H (.loop .ready .none 0 aa params assign body d) λl H=>
  e.call fv [.yield l] H λ_ a=>ux a l λst cB fn aa b as c d=>
   Bk st (Gm fr l K a cB fn aa b as c d) False (Gm fr l K a cB fn aa b as c d)
def RV(f:aJ)(params:List ab)(assign body:bt):CK:=λa fr H K=>Bi fr λaa bI bG=>gC aa f λfv=>
 Option.rec (motive:=λ_=>Prop) (pO H (.deferred false) λm H=>zn a aa params assign body fv K ⟨aa,m::bI,bG⟩ H m)
   (λl=>ux H l λ_ _ _ _ _ _ _ d=>zn a aa params assign body fv K fr H d) bG
def RW(id:Nat):CK:=λ_ fr H K=>K (.exit id) fr H
def RX:CK:=λ_ fr H K=>K .ret fr H
def Dp(fr:Fr)(H:ai)(K:uw)(g:ap AV->ai->Option (ap AV×ai)):Prop:=
 Bi fr λaa bI bG=>j9 (g aa H) λp=>Prod.rec (motive:=λ_=>Prop) (λaa H=>K .none ⟨aa,bI,bG⟩ H) p
def RY(ac:ap aG)(t:Nat):CK:=λ_ fr H K=>rI .none ac t λg=>aG.rec (motive:=λ_=>Prop) False (λ_ _ _=>False) (λ_=>False) (Dp fr H K) g
def RZ(ac:ap aG)(c:bt):CK:=bt.rec (motive:=λ_=>CK) RQ xw (λa b _ _=>RR a b) (λc a b _ _=>RS c a b) (λid b _=>RT id b) (λb _=>RU b)
  (λf d a b _ _=>RV f d a b) RW RX (RY ac) c
def after(a:kZ)(l:List be)(K:Fr->ai->Prop)(dst:Option ab)(re:List jo)(aa:ap AV)(bI:List ab)(bG:Option ab)(v:AV)(H:ai):Prop:=
 Dm aa dst v λaa=>KP aa H re (a.aC l ⟨aa,bI,bG⟩ H K)
def jO(a:kZ)(op:bW)(aa:ap AV)(k:KV)(b:ai×List (ab×cq)):Prop:=
 Prod.rec (motive:=λ_=>Prop) (λH s=>zk op a aa H λv H=>k v (eB H s)) b
def Gn(a:kZ)(op:bW)(aa:ap AV)(H:ai)(jM:List ab)(k:KV):Prop:=
 alL (motive:=λ_=>Prop) (zk op a aa H k) (λp l _=>jO a op aa k (eV aa H (p::l))) jM
def R0(a:kZ)(l:List be)(H:ai)(K:Fr->ai->Prop)(dst:Option ab)(op:bW)(guard:Option (ab×Bool))(jM:List ab)(re:List jo)(aa:ap AV)(bI:List ab)(bG:Option ab):Prop:=
 Gh aa guard (Gn a op aa H jM (after a l K dst re aa bI bG)) (Dm aa dst .alR λaa=>a.aC l ⟨aa,bI,bG⟩ H K)
def R2(a:kZ)(l:List be)(fr:Fr)(H:ai)(K:Fr->ai->Prop)(dst:Option ab)(op:bW)(guard:Option (ab×Bool))(jM:List ab)(re:List jo):Prop:=
 Bi fr (R0 a l H K dst op guard jM re)
def R3(a:kZ)(fr:Fr)(H:ai)(K:Fr->ai->Prop)(o:be)(l:List be)(_:Prop):Prop:=be.rec (motive:=λ_=>Prop) (R2 a l fr H K) o
def R4(a:kZ)(l:List be)(fr:Fr)(H:ai)(K:Fr->ai->Prop):Prop:=alL (motive:=λ_=>Prop) (K fr H) (R3 a fr H K) l
def Gp(results:List iW)(K:KV)(fr:Fr)(H:ai):Prop:=Bi fr λaa bI _=>Gk H bI λH=>Bj aa H results λl=>Gj l λv=>K v H
def KQ(results:List iW)(K:KV)(j:cP)(fr:Fr)(H:ai):Prop:=zl j (Gp results K fr H) (λ_=>False) (Gp results K fr H)
def Dq(a:kZ)(H:ai)(K:KV)(all:List AV)(b:Nat)(results:List iW)(body:bt):Prop:=
 eW (ak2 (oN all) b) (Gi all .xH .aL λaa=>a.exec body ⟨aa,[],none⟩ H (KQ results K)) False
def Ds(H:ai)(K:KV)(all:List AV)(g:List AV->ai->Option (AV×ai)):Prop:=
 j9 (g all H) λp=>Prod.rec (motive:=λ_=>Prop) (λv H=>sN v λv=>K v H) p
def R5(ac:ap aG)(b:kZ)(args:List AV)(H:ai)(K:KV)(f:Nat)(first a:List AV):Prop:=
 rI .none ac f λg=>oM (first++args++a) λall=>aG.rec (motive:=λ_=>Prop) False (Dq b H K all) (Ds H K all) (λ_=>False) g
def Gq(l:ab)(K:KV)(j:cP)(_:Fr)(H:ai):Prop:=
 ux H l λ_ _ fn aa a as b d=>
  zl j (rJ H l (.loop .ready .none fn aa a as b d) λH=>K (.bool true) H)
    (λ_=>rJ H l (.loop .done j fn aa a as b d) λH=>K (.bool false) H)
    (rJ H l (.loop .done j fn aa a as b d) λH=>K (.bool false) H)
def KR(b:kZ)(l:ab)(a:bt)(K:KV)(fr:Fr)(H:ai):Prop:=
 ux H l λst cB fn aa c as e d=>Bk st
   (rJ H l (.loop .busy cB fn aa c as e d) λH=>b.exec a fr H (Gq l K)) False False
def Bm(b:kZ)(l:ab)(a:bt)(K:KV)(j:cP)(fr:Fr)(H:ai):Prop:=zl j (KR b l a K fr H) (λ_=>False) False
def Gr(a:kZ)(args:List AV)(H:ai)(K:KV)(l:ab):Prop:=
 ux H l λst _ _ aa b as c _=>Bk st
   (eW (akb (oN args) (oN b)) (a.exec as ⟨ph b args aa,[],some l⟩ H (Bm a l c K)) False) False False
def R6(ac:ap aG)(b:kZ)(f:AV)(args:List AV)(H:ai)(K:KV):Prop:=
 match f with
 |.func f first a=>R5 ac b args H K f first a
 |.yield l=>Gr b args H K l
 |_=>False
def ft(ac:ap aG)(n:Nat):kZ:=Nat.rec (motive:=λ_=>kZ)
  ⟨λ_ _ _ _=>False,λ_ _ _ _=>False,λ_ _ _ _=>False⟩
  (λ_ a=>⟨λc fr H K=>RZ ac c a fr H K,R4 a,R6 ac a⟩) n
end
end Go.am.K
end
