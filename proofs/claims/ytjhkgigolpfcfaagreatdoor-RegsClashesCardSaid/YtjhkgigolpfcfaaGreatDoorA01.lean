/- A part of the proof. No conditions. -/
import Derived.Test.YtjhkgigolpfcfaaGreatDoorA00
set_option linter.all false
open List renaming rec→air
open Nat renaming beq→agQ,blt→aha,ble→ahG
noncomputable section
namespace Go.ak.K
section
variable{h:Type}
abbrev KV:=AV→af→Prop
def eX(n:Nat)(k:Nat→Prop):Prop:=Nat.rec (motive:=λ_=>Prop) (k Nat.zero) (λm _=>k (Nat.succ m)) n
def nK(n:Int)(k:Int→Prop):Prop:=
 Int.rec (motive:=λ_=>Prop) (λm=>eX m λm=>k (.ofNat m)) (λm=>eX m λm=>k (.negSucc m)) n
def qK(p:ac):(ac→Prop)→Prop:=
 ac.rec (motive:=λ_=>(ac→Prop)→Prop) (λk=>k .xH) (λ_ a k=>a λp=>k (.xO p)) (λ_ a k=>a λp=>k (.xI p)) p
def Aj(p:ac):(ac→Prop)→Prop:=
 ac.rec (motive:=λ_=>(ac→Prop)→Prop) (λk=>k (.xO .xH)) (λp _ k=>k (.xI p)) (λ_ a k=>a λp=>k (.xO p)) p
def eN(b:Bool)(x y:Prop):Prop:=Bool.rec (motive:=λ_=>Prop) y x b
def yA(b:Bool)(k:Bool→Prop):Prop:=Bool.rec (motive:=λ_=>Prop) (k false) (k true) b
def wx(d:h)(p:ac):am h→(h→Prop)→Prop:=ac.rec (motive:=λ_=>am h→(h→Prop)→Prop)
  (λt k=>am.rec (motive:=λ_=>Prop) (k d) (λ_ v _ _ _=>k v) t)
  (λ_ a t k=>am.rec (motive:=λ_=>Prop) (k d) (λl _ _ _ _=>a l k) t)
  (λ_ a t k=>am.rec (motive:=λ_=>Prop) (k d) (λ_ _ r _ _=>a r k) t) p
def wy(d:h)(p:ac):h→am h→(am h→Prop)→Prop:=ac.rec (motive:=λ_=>h→am h→(am h→Prop)→Prop)
  (λv t k=>am.rec (motive:=λ_=>Prop) (k (.node .aJ v .aJ)) (λl _ r _ _=>k (.node l v r)) t)
  (λ_ a v t k=>am.rec (motive:=λ_=>Prop) (a v .aJ λl=>k (.node l d .aJ)) (λl w r _ _=>a v l λl=>k (.node l w r)) t)
  (λ_ a v t k=>am.rec (motive:=λ_=>Prop) (a v .aJ λr=>k (.node .aJ d r)) (λl w r _ _=>a v r λr=>k (.node l w r)) t) p
def qL(d:h)(t:am h):Nat→(h→Prop)→Prop:=am.rec (motive:=λ_=>Nat→(h→Prop)→Prop)
  (λ_ k=>k d)
  (λ_ v _ a b n k=>Nat.rec (motive:=λ_=>Prop) (k v) (λm _=>eN (agQ (Nat.mod m 2) 0) (a (Nat.div m 2) k) (b (Nat.div m 2) k)) n) t
def EV(d:h)(x:h)(t:am h)(k:am h→Prop):Prop:=am.rec (motive:=λ_=>Prop) (k (.node .aJ x .aJ)) (λl _ r _ _=>k (.node l x r)) t
def lK(d:h)(a:Nat→h→am h→(am h→Prop)→Prop)(m:Nat)(x:h)(t:am h)(k:am h→Prop):Prop:=
 am.rec (motive:=λ_=>Prop) (a m x .aJ λl=>k (.node l d .aJ)) (λl w r _ _=>a m x l λl=>k (.node l w r)) t
def rK(d:h)(a:Nat→h→am h→(am h→Prop)→Prop)(m:Nat)(x:h)(t:am h)(k:am h→Prop):Prop:=
 am.rec (motive:=λ_=>Prop) (a m x .aJ λr=>k (.node .aJ d r)) (λl w r _ _=>a m x r λr=>k (.node l w r)) t
def wz(d:h)(f:Nat):Nat→h→am h→(am h→Prop)→Prop:=Nat.rec (motive:=λ_=>Nat→h→am h→(am h→Prop)→Prop)
  (λn x t k=>Nat.rec (motive:=λ_=>Prop) (EV d x t k) (λ_ _=>k t) n)
  (λ_ a n x t k=>Nat.rec (motive:=λ_=>Prop) (EV d x t k) (λm _=>eN (agQ (Nat.mod m 2) 0) (lK d a (Nat.div m 2) x t k) (rK d a (Nat.div m 2) x t k)) n) f
def CE(l:List Nat):(List Nat→Prop)→Prop:=air (motive:=λ_=>(List Nat→Prop)→Prop) (λk=>k []) (λn _ a k=>eX n λn=>a λl=>k (n::l)) l
def rY(v:AV):(AV→Prop)→Prop:=
 AV.rec (motive_1:=λ_=>(AV→Prop)→Prop) (motive_2:=λ_=>(List AV→Prop)→Prop)
   (λ_ c k=>c λl=>k (.tuple l))
   (λ_ c k=>c λl=>k (.agg l))
   (λb k=>yA b λb=>k (.bool b))
   (λj n k=>eX j λj=>nK n λn=>k (.int j n))
   (λs k=>CE s λs=>k (.aC s))
   (λid off k=>qK id λid=>eX off λoff=>k (.aw id off))
   (λk=>k .ls)
   (λid off len cap ex k=>qK id λid=>eX off λoff=>eX len λlen=>eX cap λcap=>yA ex λex=>k (.slice id off len cap ex))
   (λk=>k .aP)
   (λid k=>qK id λid=>k (.map id))
   (λk=>k .cL)
   (λf _ _ d e k=>eX f λf=>d λa=>e λb=>k (.func f a b))
   (λid k=>qK id λid=>k (.yield id))
   (λk=>k .nilFunc)
   (λt _ c k=>eX t λt=>c λv=>k (.iface t v))
   (λk=>k .nilIface)
   (λk=>k .bX)
   (λk=>k [])
   (λ_ _ g i k=>g λv=>i λl=>k (v::l)) v
def nM(l:List AV):(List AV→Prop)→Prop:=air (motive:=λ_=>(List AV→Prop)→Prop) (λk=>k []) (λv _ a k=>rY v λv=>a λl=>k (v::l)) l
def fQ(aa:am AV)(x:aG)(k:AV→Prop):Prop:=aG.rec (motive:=λ_=>Prop) (λp=>wx .aiw p aa k) k x
def CF(aa:am AV)(l:List aG):(List AV→Prop)→Prop:=
 air (motive:=λ_=>(List AV→Prop)→Prop) (λk=>k []) (λx _ a k=>fQ aa x λv=>a λl=>k (v::l)) l
def jP(o:Option h)(k:h→Prop):Prop:=Option.rec (motive:=λ_=>Prop) False k o
def Ak(H:af)(id:ac)(k:b9→Prop):Prop:=af.rec (motive:=λ_=>Prop) (λt _=>wx .none id t k) H
def qM(H:af)(id:ac)(o:b9)(k:af→Prop):Prop:=af.rec (motive:=λ_=>Prop) (λt n=>wy .none id o t λt=>k ⟨t,n⟩) H
def oY(H:af)(o:b9)(k:ac→af→Prop):Prop:=
 af.rec (motive:=λ_=>Prop) (λt n=>wy .none n o t λt=>Aj n λm=>k n ⟨t,m⟩) H
def EW(l:List ac):af→(af→Prop)→Prop:=
 air (motive:=λ_=>af→(af→Prop)→Prop) (λH k=>k H) (λi _ a H k=>qM H i .none λH=>a H k) l
def Qx(k:am AV→Nat→Nat→Bool→List ac→Nat→Prop)(o:b9):Prop:=
 b9.rec (motive:=λ_=>Prop) False k (λ_ _=>False) (λ_=>False) (λ_ _ _=>False) (λ_ _ _ _ _ _ _ _=>False) (λ_=>False) (λ_ _ _ _=>False) o
def wA(H:af)(id:ac)(k:am AV→Nat→Nat→Bool→List ac→Nat→Prop):Prop:=Ak H id (Qx k)
def CG(c:am AV)(n m:Nat):Nat→(List AV→Prop)→Prop:=
 Nat.rec (motive:=λ_=>Nat→(List AV→Prop)→Prop) (λ_ k=>k [])
   (λ_ a off k=>eN (aha off n) (eX off λoff=>qL .aiw c off λv=>a (Nat.succ off) λl=>k (v::l)) False) m
def Al(l:List AV):am AV→Nat→(am AV→Prop)→Prop:=
 air (motive:=λ_=>am AV→Nat→(am AV→Prop)→Prop) (λc _ k=>k c) (λv _ a c off k=>eX off λoff=>wz .aiw off off v c λc=>a c (Nat.succ off) k) l
def CH(H:af)(id:ac)(off m:Nat)(k:List AV→Prop):Prop:=
 wA H id λc n _ _ _ _=>CG c n m off k
def mJ(a b:Bool):Bool:=Bool.rec (motive:=λ_=>Bool) false b a
def yB(l:List AV):Bool:=air (motive:=λ_=>Bool) true (λv _ a=>mJ v.dQ a) l
def nN(l:List h):Nat:=air (motive:=λ_=>Nat) Nat.zero (λ_ _ a=>Nat.succ a) l
def EX(H:af)(id:ac)(off:Nat)(l:List AV)(k:af→Prop)(c:am AV)(n e:Nat)(rw:Bool)(aK:List ac)(fz:Nat):Prop:=
 eN (mJ rw (mJ (ahG fz off) (mJ (ahG (Nat.add off (nN l)) n) (yB l))))
     (EW aK H λH=>Al l c off λc=>qM H id (.cells c n e true [] fz) k) False
def yC(H:af)(id:ac)(off:Nat)(l:List AV)(k:af→Prop):Prop:=wA H id (EX H id off l k)
def wB(v:AV)(k:ac→Nat→Prop):Prop:=
 match v with
 |.aw id off=>k id off
 |_=>False
def tA(H:af)(l:List AV)(n a:Nat)(k:ac→af→Prop):Prop:=
 Al l .aJ 0 λc=>eX n λn=>oY H (.cells c n a true [] 0) k
def EY(a bytes size:Nat)(H:af)(n:Nat)(l:List AV)(k:KV):Prop:=
 eN (agQ n 0) (k .aP H) (eN (mJ (fc (n*bytes)) (fc n)) (tA H l (n*size) a λid H=>k (.slice id 0 n n false) H) False)
def JV(size:Nat)(H:af)(n:Nat)(l:List AV)(k:KV)(id:ac)(off len cap:Nat)(exact:Bool)(a:Nat):Prop:=
 eN (agQ n 0) (k (.slice id off a cap exact) H)
   (eX (Nat.add off (Nat.mul len size)) λbC=>yC H id bC l λH=>k (.slice id off a cap exact) H)
def JW(b size:Nat)(H:af)(k:KV)(id:ac)(off cap:Nat)(a:Nat)(all:List AV)(c:am AV)(m e:Nat)(rw:Bool)(aK:List ac)(fz:Nat):Prop:=
 eN (mJ rw (mJ (agQ (Nat.add off (Nat.mul cap size)) m) (mJ (agQ e b) (ahG fz m))))
   (qM H id (.cells c m e false aK fz) λH=>
   Al all .aJ 0 λc=>eX (a*size) λnn=>eX (fz - off) λfz=>oY H (.cells c nn b true (id::aK) fz) λid H=>k (.slice id 0 a a false) H)
   False
def EZ(b size:Nat)(H:af)(l:List AV)(k:KV)(id:ac)(off len cap:Nat)(exact:Bool)(a:Nat)(c:am AV)(m e:Nat)(rw:Bool)(aK:List ac)(fz:Nat):Prop:=
 CG c m (Nat.mul len size) off λdJ=>nM (dJ++l) λall=>
  eN exact (tA H all (a*size) b λid H=>k (.slice id 0 a a false) H) (eN (agQ len cap) (JW b size H k id off cap a all c m e rw aK fz) False)
def E0(b bytes size:Nat)(H:af)(n:Nat)(l:List AV)(k:KV)(id:ac)(off len cap:Nat)(exact:Bool):Prop:=
 eX (Nat.add len n) λa=>eN (ahG a cap) (JV size H n l k id off len cap exact a)
   (eN (mJ (fc (a*bytes)) (fc a)) (wA H id (EZ b size H l k id off len cap exact a)) False)
def Am(a bytes size:Nat)(H:af)(s:AV)(n:Nat)(l:List AV)(k:KV):Prop:=
 eN (yB l)
   (match s with
  |.aP=>EY a bytes size H n l k
  |.slice id off len cap exact=>E0 a bytes size H n l k id off len cap exact
  |_=>False)
   False
def JX(x y:AV)(k:Nat→Int→Nat→Int→Prop):Prop:=
 match x,y with
 |.int i a,.int j b=>k i a j b
 |_,_=>False
def JY(a b:Int)(k:Int→Prop):Prop:=
 Int.rec (motive:=λ_=>Prop) (λm=>Int.rec (motive:=λ_=>Prop) (λn=>eX (Nat.add m n) λs=>k (.ofNat s)) (λ_=>nK (a+b) k) b) (λ_=>nK (a+b) k) a
def JZ(a b:Int)(k:Int→Prop):Prop:=
 Int.rec (motive:=λ_=>Prop) (λm=>Int.rec (motive:=λ_=>Prop) (λn=>eN (ahG n m) (eX (Nat.sub m n) λs=>k (.ofNat s)) (nK (a - b) k)) (λ_=>nK (a - b) k) b) (λ_=>nK (a - b) k) a
def J4(n:Int)(k:Int→Prop):Prop:=
 Int.rec (motive:=λ_=>Prop) (λm=>eN (aha m 9223372036854775808) (k (.ofNat m)) (nK (iq 3 n) k)) (λ_=>nK (iq 3 n) k) n
def CI(j:Nat)(n:Int)(k:Int→Prop):Prop:=eN (agQ j 3) (J4 n k) (nK (iq j n) k)
def E1(a b:Int):Bool:=Int.rec (motive:=λ_=>Bool) (λm=>Int.rec (motive:=λ_=>Bool) (λn=>agQ m n) (λ_=>false) b) (λm=>Int.rec (motive:=λ_=>Bool) (λ_=>false) (λn=>agQ m n) b) a
def An(a b:Int):Bool:=Int.rec (motive:=λ_=>Bool) (λm=>Int.rec (motive:=λ_=>Bool) (λn=>aha m n) (λ_=>false) b) (λm=>Int.rec (motive:=λ_=>Bool) (λ_=>true) (λn=>aha n m) b) a
def CJ(b:Bool):Bool:=Bool.rec (motive:=λ_=>Bool) true false b
def qN(b:Bool)(k:AV→Prop):Prop:=Bool.rec (motive:=λ_=>Prop) (k (.bool false)) (k (.bool true)) b
abbrev AK:=Nat→Int→Int→(AV→Prop)→Prop
def E2:AK:=λj a b k=>JY a b λs=>CI j s λs=>k (.int j s)
def E3:AK:=λj a b k=>JZ a b λs=>CI j s λs=>k (.int j s)
def tC(op:BinOp):AK:=λj a b k=>jP (ir op j a b) λv=>rY v k
def J5:AK:=λ_ _ _ _=>False
def Qy:AK:=λ_ a b k=>qN (E1 a b) k
def Qz:AK:=λ_ a b k=>qN (CJ (E1 a b)) k
def QA:AK:=λ_ a b k=>qN (An a b) k
def QB:AK:=λ_ a b k=>qN (CJ (An b a)) k
def QC:AK:=λ_ a b k=>qN (An b a) k
def QD:AK:=λ_ a b k=>qN (CJ (An a b)) k
def E4(op:BinOp):AK:=BinOp.rec (motive:=λ_=>AK) E2 E3 (tC .mul) (tC .quo) (tC .rem) (tC .and) (tC .or) (tC .xor) J5 J5 (tC .andNot) Qy Qz QA QB QC QD op
def E5(op:BinOp)(j:Nat)(x y:AV)(k:AV→Prop):Prop:=
 JX x y λi a l b=>eN (mJ (agQ i j) (agQ l j)) (E4 op j a b k) False
abbrev tD:=cG→Fr→af→Prop
structure kG where
 exec:bp→Fr→af→tD→Prop
 az:List aS→Fr→af→(Fr→af→Prop)→Prop
 call:AV→List AV→af→KV→Prop
abbrev OK:=kG→am AV→af→KV→Prop
def gw(o:bO):OK:=λ_ aa H k=>jP (aB o aa H) λp=>Prod.rec (motive:=λ_=>Prop) (λv H=>rY v λv=>k v H) p
def QE(x:aG):OK:=λ_ aa H k=>fQ aa x λv=>k v H
def QF(aa:am AV)(H:af)(k:KV)(a b:aG)(c:AV):Prop:=match c with
  |.bool t=>eN t (fQ aa a λv=>k v H) (fQ aa b λv=>k v H)
  |_=>False
def E6(c a b:aG):OK:=λ_ aa H k=>fQ aa c (QF aa H k a b)
def E7(a:Nat)(x:aG):OK:=λ_ aa H k=>fQ aa x λv=>nM v.cells λl=>eN (yB l) (tA H l (nN l) a λid H=>k (.aw id 0) H) False
def E8(a:Nat)(b:List AV):OK:=λ_ _ H k=>tA H b (nN b) a λid H=>k (.aw id 0) H
def E9(a len:Nat)(b:List AV)(eW:List (Nat×Nat×aG)):OK:=λ_ aa H k=>
 jP (nI aa (fx b len) eW) λl=>nM l λl=>eN (yB l) (tA H l (nN l) a λid H=>k (.slice id 0 len len true) H) False
def J6(off:Nat)(k:AV→Prop)(c:am AV)(n _e:Nat)(_rw:Bool)(_p:List ac)(_fz:Nat):Prop:=eN (aha off n) (qL .aiw c off k) False
def J7(H:af)(k:KV)(a:AV):Prop:=wB a λid off=>wA H id (J6 off λv=>k v H)
def E'(a:aG):OK:=λ_ aa H k=>fQ aa a (J7 H k)
def Fb(n:Nat)(a:aG):OK:=λ_ aa H k=>fQ aa a λa=>wB a λid off=>CH H id off n λl=>k (.agg l) H
def QG(n:Nat)(H:af)(k:KV)(a:AV)(l:List AV):Prop:=wB a λid off=>eN (agQ (nN l) n) (yC H id off l λH=>k .aiw H) False
def Fc(n:Nat)(a x:aG):OK:=λ_ aa H k=>fQ aa a λa=>fQ aa x λv=>nM v.cells (QG n H k a)
def Fe(op:BinOp)(j:Nat)(x y:aG):OK:=λ_ aa H k=>fQ aa x λx=>fQ aa y λy=>E5 op j x y λv=>k v H
def Ff(off:Nat)(x:aG):OK:=λ_ aa H k=>fQ aa x λx=>wB x λid o=>eX (Nat.add o off) λo=>k (.aw id o) H
def QH(size:Nat)(H:af)(k:KV)(x i:AV):Prop:=match x,i with
  |.slice id o len _ _,.int _ (.ofNat j)=>eN (aha j len) (eX (Nat.add o (Nat.mul j size)) λo=>k (.aw id o) H) False
  |_,_=>False
def Fg(size:Nat)(x i:aG):OK:=λ_ aa H k=>fQ aa x λx=>fQ aa i λi=>QH size H k x i
def Fh:OK:=λ_ _ H k=>oY H (.map [] 0) λid H=>k (.map id) H
def J8(a bytes size:Nat)(b:List AV)(H:af)(k:KV)(len cap:AV):Prop:=match len,cap with
  |.int 3 (.ofNat l),.int 3 (.ofNat c)=>
   eN (mJ (ahG l c) (mJ (fc (c*bytes)) (fc c))) (nM (fx b c) λb=>tA H b (c*size) a λid H=>k (.slice id 0 l c true) H) False
  |_,_=>False
def Fi(a bytes size:Nat)(b:List AV)(len cap:aG):OK:=λ_ aa H k=>fQ aa len λlen=>fQ aa cap λcap=>J8 a bytes size b H k len cap
def QI(a:Nat)(H:af)(k:KV)(x:AV):Prop:=match x with
  |.aC s=>nM (s.map λn=>.int 4 (.ofNat n)) λl=>tA H l s.length a λid H=>eX s.length λn=>k (.slice id 0 n n false) H
  |_=>False
def Fj(a:Nat)(x:aG):OK:=λ_ aa H k=>fQ aa x (QI a H k)
def J9(a bytes size:Nat)(b:List AV)(H:af)(s:AV)(k:KV)(x:AV):Prop:=match x with
  |.int 3 (.ofNat n)=>eN (mJ (fc (n*bytes)) (fc n)) (nM (fx b n) λl=>Am a bytes size H s n l k) False
  |_=>False
def QJ(a bytes size:Nat)(H:af)(s:AV)(k:KV)(p:Nat×List AV):Prop:=Prod.rec (motive:=λ_=>Prop) (λn l=>eX n λn=>nM l λl=>Am a bytes size H s n l k) p
def Fk(b bytes size:Nat)(c:List AV)(a:Bool)(s x:aG):OK:=λ_ aa H k=>fQ aa s λs=>fQ aa x λx=>
   eN a (J9 b bytes size c H s k x) (jP (iS H size x) (QJ b bytes size H s k))
def Fl(size:Nat)(H:af)(k:KV)(d:AV)(n:Nat)(l:List AV):Prop:=match d with
  |.aP=>k (.int 3 (.ofNat 0)) H
  |.slice id off len _ _=>eX (min n len) λm=>eN (agQ m 0) (k (.int 3 (.ofNat 0)) H)
     (nM (l.take (m*size)) λl=>yC H id off l λH=>k (.int 3 (.ofNat m)) H)
  |_=>False
def Fm(size:Nat)(d s:aG):OK:=λ_ aa H k=>fQ aa d λd=>fQ aa s λs=>jP (iS H size s) λp=>Prod.rec (motive:=λ_=>Prop) (Fl size H k d) p
def J'(H:af)(k:KV)(x:AV):Prop:=match x with
  |.aC s=>oY H (.oq s s 0) λid H=>k (.aw id 0) H
  |_=>False
def Fp(x:aG):OK:=λ_ aa H k=>fQ aa x (J' H k)
def Kb(H:af)(k:KV)(x:AV):Prop:=match x with
  |.cL=>oY H (.mapIter none 0 [] 0) λid H=>k (.aw id 0) H
  |.map m=>Ak H m λo=>match o with
   |.map _ a=>oY H (.mapIter (some m) a [] a) λid H=>k (.aw id 0) H
   |_=>False
  |_=>False
def Fq(x:aG):OK:=λ_ aa H k=>fQ aa x (Kb H k)
def Kc(H:af)(b:AV)(k:KV):Prop:=match tz H b with
  |some (cs,a)=>∀i,i<cs.length→match cs[i]? with
   |some c=>k (a c).1 (a c).2
   |none=>False
  |none=>False
def QK(a:aG):OK:=λ_ aa H k=>fQ aa a λa=>Kc H a k
def QL(f:aG)(args:List aG):OK:=λa aa H k=>fQ aa f λf=>CF aa args λargs=>a.call f args H k
def Ft(l:List AV):Nat→(AV→Prop)→Prop:=air (motive:=λ_=>Nat→(AV→Prop)→Prop) (λ_ _=>False) (λv _ a n k=>Nat.rec (motive:=λ_=>Prop) (k v) (λn _=>a n k) n) l
def QM(i:Nat)(H:af)(k:KV)(x:AV):Prop:=match x with
  |.tuple l=>Ft l i λv=>k v H
  |_=>False
def Fu(x:aG)(i:Nat):OK:=λ_ aa H k=>fQ aa x (QM i H k)
def QN(H:af)(k:KV)(x:AV):Prop:=match x with
  |.aw id off=>k (.aw id off) H
  |.func f a b=>k (.func f a b) H
  |.yield l=>k (.yield l) H
  |.iface t v=>k (.iface t v) H
  |.map m=>k (.map m) H
  |.slice a b c d e=>k (.slice a b c d e) H
  |_=>False
def Fv(x:aG):OK:=λ_ aa H k=>fQ aa x (QN H k)
def QO(H:af)(k:KV)(x:AV):Prop:=match x with
  |.slice _ _ n _ _=>k (.int 3 (.ofNat n)) H
  |.aP=>k (.int 3 (.ofNat 0)) H
  |_=>False
def Fx(x:aG):OK:=λ_ aa H k=>fQ aa x (QO H k)
def yD(o:bO):OK:=bO.rec (motive:=λ_=>OK)
  QE
  E6
  E7
  E8
  (λe eW=>gw (.build e eW))
  E9
  E'
  Fb
  Fc
  Fv
  Fe
  (λop x y=>gw (.shift op x y))
  (λop x y=>gw (.il op x y))
  (λp d x y=>gw (.eq p d x y))
  (λop x=>gw (.unary op x))
  (λk x=>gw (.lu k x))
  Fj
  (λx=>gw (.wp x))
  (λx=>gw (.Ad x))
  (λt x=>gw (.lw t x))
  (λf first a=>gw (.iG f first a))
  Fh
  Fi
  (λn size x lo hi g=>gw (.yr n size x lo hi g))
  (λc size x lo hi g=>gw (.gR c size x lo hi g))
  (λx lo hi=>gw (.wt x lo hi))
  Ff
  (λagg off size x=>gw (.part agg off size x))
  (λn size x i=>gw (.rU n size x i))
  Fg
  (λagg n size x i=>gw (.Ae agg n size x i))
  (λx i=>gw (.mH x i))
  (λkey zero ok m k=>gw (.lookup key zero ok m k))
  (λkey m k v=>gw (.ju key m k v))
  (λkey zero m k=>gw (.mapEntry key zero m k))
  (λm s v=>gw (.entryStore m s v))
  Fp
  (λj=>gw (.uO j))
  Fq
  QK
  (λj=>gw (.tq j))
  (gw .oW)
  (λt zero ok x=>gw (.typeAssert t zero ok x))
  Fu
  (λn=>gw (.pE n))
  (λx=>gw (.ku x))
  Fx
  (λx=>gw (.wu x))
  (λx=>gw (.cap x))
  Fk
  Fm
  (λe x=>gw (.yt e x))
  (λx=>gw (.yu x))
  (λkey m k=>gw (.delete key m k))
  (λb l=>gw (.pF b l))
  QL o
def yE(j:cG)(x:Prop)(y:Nat→Prop)(z:Prop):Prop:=cG.rec (motive:=λ_=>Prop) x y z j
def Ao(fr:Fr)(k:am AV→List ac→Option ac→Prop):Prop:=Fr.rec (motive:=λ_=>Prop) k fr
def Fy(v:AV)(t f:Prop):Prop:=match v with
 |.bool b=>eN b t f
 |_=>False
def CM(aa:am AV)(d:Option ac)(v:AV)(k:am AV→Prop):Prop:=
 Option.rec (motive:=λ_=>Prop) (k aa) (λp=>wy .aiw p v aa k) d
def Kd(aa:am AV)(H:af)(l:List i9)(x:Prop):Prop:=
 air (motive:=λ_=>Prop) x (λp l _=>eN (fh aa H (p::l)) x False) l
def Fz(aa:am AV)(g:Option (ac×Bool))(x y:Prop):Prop:=
 Option.rec (motive:=λ_=>Prop) x (λg=>eN (ft aa (some g)) x (eN (lA aa (some g)) y False)) g
def FA(l:List AV):ac→am AV→(am AV→Prop)→Prop:=
 air (motive:=λ_=>ac→am AV→(am AV→Prop)→Prop) (λ_ t k=>k t) (λv _ a p t k=>wy .aiw p v t λt=>Aj p λp=>a p t k) l
def Ap(aa:am AV)(H:af)(l:List iH):(List AV→Prop)→Prop:=
 air (motive:=λ_=>(List AV→Prop)→Prop) (λk=>k [])
   (λr _ b k=>iH.rec (motive:=λ_=>Prop) (λp=>wx .aiw p aa λv=>b λl=>k (v::l))
    (λp agg n=>wx .aiw p aa λa=>jP (ja H a n agg) λv=>rY v λv=>b λl=>k (v::l)) r) l
def FB(l:List AV)(k:AV→Prop):Prop:=air (motive:=λ_=>Prop) (k (.tuple [])) (λv m _=>air (motive:=λ_=>Prop) (k v) (λ_ _ _=>k (.tuple l)) m) l
def FC(H:af)(l:List ac)(k:af→Prop):Prop:=air (motive:=λ_=>Prop) (k H) (λi l _=>jP (jw H (i::l)) k) l
abbrev LK:=rV→cG→Nat→am AV→List ac→bp→bp→ac→Prop
def QP(k:LK)(o:b9):Prop:=
 b9.rec (motive:=λ_=>Prop) False (λ_ _ _ _ _ _=>False) (λ_ _=>False) (λ_=>False) (λ_ _ _=>False) k (λ_=>False) (λ_ _ _ _=>False) o
def tE(H:af)(id:ac)(k:LK):Prop:=Ak H id (QP k)
def Aq(st:rV)(ready busy CN:Prop):Prop:=rV.rec (motive:=λ_=>Prop) ready busy CN CN st
abbrev CK:=kG→Fr→af→tD→Prop
def QQ:CK:=λ_ fr H K=>K .none fr H
def wC(l:List aS):CK:=λa fr H K=>a.az l fr H (K .none)
def yF(a:kG)(b:bp)(K:tD)(j:cG)(fr:Fr)(H:af):Prop:=yE j (a.exec b fr H K) (λi=>K (.exit i) fr H) (K .ret fr H)
def QR(a b:bp):CK:=λc fr H K=>c.exec a fr H (yF c b K)
def QS(c:aG)(a b:bp):CK:=λd fr H K=>Ao fr λaa _ _=>fQ aa c λv=>Fy v (d.exec a fr H K) (d.exec b fr H K)
def FD(id:Nat)(K:tD)(j:cG)(fr:Fr)(H:af):Prop:=yE j (K .none fr H) (λi=>eN (agQ i id) (K .none fr H) (K (.exit i) fr H)) (K .ret fr H)
def QT(id:Nat)(b:bp):CK:=λa fr H K=>a.exec b fr H (FD id K)
def QU(b:bp):CK:=λa fr H K=>a.exec b fr H (yF a (.loop b) K)
def FE(fr:Fr)(l:ac)(K:tD)(H':af)(cq:cG)(fn:Nat)(aa:am AV)(b:List ac)(as c:bp)(d:ac):Prop:=
 qM H' l (.loop .exhausted cq fn aa b as c d) λa=>K cq fr a
def yG(c:kG)(aa:am AV)(params:List ac)(assign body:bp)(fv:AV)(K:tD)(fr:Fr)(H:af)(d:ac):Prop:=
 oY H (.loop .ready .none 0 aa params assign body d) λl H=>
  c.call fv [.yield l] H λ_ H'=>tE H' l λst cq fn aa a as b d=>
   Aq st (FE fr l K H' cq fn aa a as b d) False (FE fr l K H' cq fn aa a as b d)
def QV(f:aG)(params:List ac)(assign body:bp):CK:=λa fr H K=>Ao fr λaa bF bD=>fQ aa f λfv=>
 Option.rec (motive:=λ_=>Prop) (oY H (.deferred false) λm H=>yG a aa params assign body fv K ⟨aa,m::bF,bD⟩ H m)
   (λl=>tE H l λ_ _ _ _ _ _ _ d=>yG a aa params assign body fv K fr H d) bD
def QW(id:Nat):CK:=λ_ fr H K=>K (.exit id) fr H
def QX:CK:=λ_ fr H K=>K .ret fr H
def CO(fr:Fr)(H:af)(K:tD)(g:am AV→af→Option (am AV×af)):Prop:=
 Ao fr λaa bF bD=>jP (g aa H) λp=>Prod.rec (motive:=λ_=>Prop) (λaa H=>K .none ⟨aa,bF,bD⟩ H) p
def QY(ab:am aE)(t:Nat):CK:=λ_ fr H K=>qL .none ab t λg=>aE.rec (motive:=λ_=>Prop) False (λ_ _ _=>False) (λ_=>False) (CO fr H K) g
def QZ(ab:am aE)(c:bp):CK:=bp.rec (motive:=λ_=>CK) QQ wC (λa b _ _=>QR a b) (λc a b _ _=>QS c a b) (λid b _=>QT id b) (λb _=>QU b)
  (λf d a b _ _=>QV f d a b) QW QX (QY ab) c
def after(a:kG)(l:List aS)(K:Fr→af→Prop)(dst:Option ac)(re:List i9)(aa:am AV)(bF:List ac)(bD:Option ac)(v:AV)(H:af):Prop:=
 CM aa dst v λaa=>Kd aa H re (a.az l ⟨aa,bF,bD⟩ H K)
def jx(a:kG)(op:bO)(aa:am AV)(k:KV)(b:af×List (ac×b9)):Prop:=
 Prod.rec (motive:=λ_=>Prop) (λH s=>yD op a aa H λv H=>k v (d8 H s)) b
def FF(a:kG)(op:bO)(aa:am AV)(H:af)(jv:List ac)(k:KV):Prop:=
 air (motive:=λ_=>Prop) (yD op a aa H k) (λp l _=>jx a op aa k (eM aa H (p::l))) jv
def Q0(a:kG)(l:List aS)(H:af)(K:Fr→af→Prop)(dst:Option ac)(op:bO)(guard:Option (ac×Bool))(jv:List ac)(re:List i9)(aa:am AV)(bF:List ac)(bD:Option ac):Prop:=
 Fz aa guard (FF a op aa H jv (after a l K dst re aa bF bD)) (CM aa dst .aiw λaa=>a.az l ⟨aa,bF,bD⟩ H K)
def Q1(a:kG)(l:List aS)(fr:Fr)(H:af)(K:Fr→af→Prop)(dst:Option ac)(op:bO)(guard:Option (ac×Bool))(jv:List ac)(re:List i9):Prop:=
 Ao fr (Q0 a l H K dst op guard jv re)
def Q2(a:kG)(fr:Fr)(H:af)(K:Fr→af→Prop)(o:aS)(l:List aS)(_:Prop):Prop:=aS.rec (motive:=λ_=>Prop) (Q1 a l fr H K) o
def Q3(a:kG)(l:List aS)(fr:Fr)(H:af)(K:Fr→af→Prop):Prop:=air (motive:=λ_=>Prop) (K fr H) (Q2 a fr H K) l
def FG(results:List iH)(K:KV)(fr:Fr)(H:af):Prop:=Ao fr λaa bF _=>FC H bF λH=>Ap aa H results λl=>FB l λv=>K v H
def Ke(results:List iH)(K:KV)(j:cG)(fr:Fr)(H:af):Prop:=yE j (FG results K fr H) (λ_=>False) (FG results K fr H)
def CP(a:kG)(H:af)(K:KV)(all:List AV)(b:Nat)(results:List iH)(body:bp):Prop:=
 eN (ahG (nN all) b) (FA all .xH .aJ λaa=>a.exec body ⟨aa,[],none⟩ H (Ke results K)) False
def CQ(H:af)(K:KV)(all:List AV)(g:List AV→af→Option (AV×af)):Prop:=
 jP (g all H) λp=>Prod.rec (motive:=λ_=>Prop) (λv H=>rY v λv=>K v H) p
def Q4(ab:am aE)(b:kG)(args:List AV)(H:af)(K:KV)(f:Nat)(first a:List AV):Prop:=
 qL .none ab f λg=>nM (first++args++a) λall=>aE.rec (motive:=λ_=>Prop) False (CP b H K all) (CQ H K all) (λ_=>False) g
def FH(l:ac)(K:KV)(j:cG)(_:Fr)(H:af):Prop:=
 tE H l λ_ _ fn aa a as b d=>
  yE j (qM H l (.loop .ready .none fn aa a as b d) λH=>K (.bool true) H)
    (λ_=>qM H l (.loop .done j fn aa a as b d) λH=>K (.bool false) H)
    (qM H l (.loop .done j fn aa a as b d) λH=>K (.bool false) H)
def Kf(b:kG)(l:ac)(a:bp)(K:KV)(fr:Fr)(H:af):Prop:=
 tE H l λst cq fn aa c as e d=>Aq st
   (qM H l (.loop .busy cq fn aa c as e d) λH=>b.exec a fr H (FH l K)) False False
def Ar(b:kG)(l:ac)(a:bp)(K:KV)(j:cG)(fr:Fr)(H:af):Prop:=yE j (Kf b l a K fr H) (λ_=>False) False
def FI(a:kG)(args:List AV)(H:af)(K:KV)(l:ac):Prop:=
 tE H l λst _ _ aa b as c _=>Aq st
   (eN (agQ (nN args) (nN b)) (a.exec as ⟨ow b args aa,[],some l⟩ H (Ar a l c K)) False) False False
def Q5(ab:am aE)(b:kG)(f:AV)(args:List AV)(H:af)(K:KV):Prop:=
 match f with
 |.func f first a=>Q4 ab b args H K f first a
 |.yield l=>FI b args H K l
 |_=>False
def eY(ab:am aE)(n:Nat):kG:=Nat.rec (motive:=λ_=>kG)
  ⟨λ_ _ _ _=>False,λ_ _ _ _=>False,λ_ _ _ _=>False⟩
  (λ_ a=>⟨λc fr H K=>QZ ab c a fr H K,Q3 a,Q5 ab a⟩) n
end
end Go.ak.K
end
