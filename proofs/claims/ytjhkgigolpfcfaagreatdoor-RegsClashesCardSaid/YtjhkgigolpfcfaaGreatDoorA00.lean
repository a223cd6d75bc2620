/- A part of the proof. No conditions. -/
import GoSem.Step
set_option linter.all false
open Nat renaming beq→agQ,blt→aha,ble→ahG
open BitVec renaming ofInt→ahJ
noncomputable section
namespace Go.ak
theorem an.{u}{c:Prop}{h:Decidable c}(k:¬c){g:Sort u}{t e:g}:ite c t e=e:=if_neg k
theorem aH.{u}{c:Prop}{h:Decidable c}(k:c){g:Sort u}{t e:g}:ite c t e=t:=if_pos k
theorem bm.{u}{g:Sort u}{h:Decidable True}(t e:g):ite True t e=t:=if_true t e
theorem bK.{u}{g:Sort u}{h:Decidable False}(t e:g):ite False t e=e:=if_false t e
inductive ac where
 |xH|xO(p:ac)|xI(p:ac)
 deriving DecidableEq
def ac.succ:ac→ac
 |.xH=>.xO .xH
 |.xO p=>.xI p
 |.xI p=>.xO p.succ
def ac.dj:Nat→ac
 |0=>.xH
 |t+1=>(ac.dj t).succ
inductive am(α:Type)where
 |aJ
 |node(l:am α)(v:α)(r:am α)
namespace am
variable{g:Type}
def left:am g→am g
 |.aJ=>.aJ
 |.node l _ _=>l
def right:am g→am g
 |.aJ=>.aJ
 |.node _ _ r=>r
def val(d:g):am g→g
 |.aJ=>d
 |.node _ v _=>v
def get(d:g):ac→am g→g
 |.xH,t=>t.val d
 |.xO p,t=>get d p t.left
 |.xI p,t=>get d p t.right
def set(d:g):ac→g→am g→am g
 |.xH,x,t=>.node t.left x t.right
 |.xO p,x,t=>.node (set d p x t.left) (t.val d) t.right
 |.xI p,x,t=>.node t.left (t.val d) (set d p x t.right)
def bq(d:g):am g→Nat→g
 |.aJ,_=>d
 |.node _ v _,0=>v
 |.node l _ r,m+1=>if m % 2=0 then bq d l (m/2)else bq d r (m/2)
def nH(d:g):(fuel:Nat)→Nat→g→am g→am g
 |_,0,x,t=>.node t.left x t.right
 |0,_+1,_,t=>t
 |f+1,m+1,x,t=>
  if m % 2=0 then .node (nH d f (m/2) x t.left) (t.val d) t.right
  else .node t.left (t.val d) (nH d f (m/2) x t.right)
end am
inductive AV where
 |tuple(l:List AV)
 |agg(l:List AV)
 |bool(b:Bool)
 |int(k:Nat)(n:Int)
 |aC(s:List Nat)
 |aw(id:ac)(off:Nat)
 |ls
 |slice(id:ac)(off len cap:Nat)(exact:Bool)
 |aP
 |map(id:ac)
 |cL
 |func(f:Nat)(first captured:List AV)
 |yield(id:ac)
 |nilFunc
 |iface(t:Nat)(v:AV)
 |nilIface
 |bX
 deriving Inhabited
abbrev AV.aiw:AV:=.tuple []
def AV.cells:AV→List AV
 |.agg l=>l
 |v=>[v]
def AV.dQ:AV→Bool
 |.agg _|.tuple _|.bX=>false
 |_=>true
def AV.bB:AV→Bool
 |.bX=>false
 |_=>true
def kc:IntKind→Nat
 |.i8=>0|.i16=>1|.i32=>2|.i64=>3|.u8=>4|.u16=>5|.u32=>6|.u64=>7
def ck:Nat→IntKind
 |0=>.i8|1=>.i16|2=>.i32|3=>.i64|4=>.u8|5=>.u16|6=>.u32|_=>.u64
inductive aG where
 |t(p:ac)
 |c(v:AV)
inductive ep where
 |bool|int|aC|aw|slice|map|func
 |iface(const empty:Bool)
 |eW(l:List (Nat×Nat×Bool×ep))
inductive bO where
 |bg(x:aG)
 |pick(c a b:aG)
 |box(elem:Nat)(x:aG)
 |alloc(elem:Nat)(zs:List AV)
 |build(zs:List AV)(eW:List (Nat×Nat×aG))
 |buildSlice(elem len:Nat)(zs:List AV)(eW:List (Nat×Nat×aG))
 |aW(a:aG)
 |fZ(n:Nat)(a:aG)
 |store(n:Nat)(a x:aG)
 |nilCheck(x:aG)
 |arith(op:BinOp)(k:Nat)(x y:aG)
 |shift(op:BinOp)(x y:aG)
 |il(op:BinOp)(x y:aG)
 |eq(neg:Bool)(d:ep)(x y:aG)
 |unary(op:UnOp)(x:aG)
 |lu(k:Nat)(x:aG)
 |wn(elem:Nat)(x:aG)
 |wp(x:aG)
 |Ad(x:aG)
 |lw(t:Nat)(x:aG)
 |iG(f:Nat)(first captured:List aG)
 |j7
 |jr(elem bytes size:Nat)(zs:List AV)(len cap:aG)
 |yr(n size:Nat)(x:aG)(lo hi mx:Option aG)
 |gR(elem size:Nat)(x:aG)(lo hi mx:Option aG)
 |wt(x:aG)(lo hi:Option aG)
 |jM(off:Nat)(x:aG)
 |part(agg:Bool)(off size:Nat)(x:aG)
 |rU(n size:Nat)(x i:aG)
 |dk(size:Nat)(x i:aG)
 |Ae(agg:Bool)(n size:Nat)(x i:aG)
 |mH(x i:aG)
 |lookup(key:ep)(zero:AV)(ok:Bool)(m k:aG)
 |ju(key:ep)(m k v:aG)
 |mapEntry(key:ep)(zero:AV)(m k:aG)
 |entryStore(m s v:aG)
 |qI(x:aG)
 |uO(it:aG)
 |oh(x:aG)
 |lx(it:aG)
 |tq(it:aG)
 |oW
 |typeAssert(t:Nat)(zero:AV)(ok:Bool)(x:aG)
 |extract(x:aG)(i:Nat)
 |pE(n:Nat)
 |ku(x:aG)
 |jN(x:aG)
 |wu(x:aG)
 |cap(x:aG)
 |append(elem bytes size:Nat)(zs:List AV)(ofMake:Bool)(s x:aG)
 |copy(size:Nat)(d s:aG)
 |yt(zs:List AV)(x:aG)
 |yu(x:aG)
 |delete(key:ep)(m k:aG)
 |pF(isMax:Bool)(l:List aG)
 |call(f:aG)(args:List aG)
structure i9 where
 dst:ac
 op:bO
 guard:Option (ac×Bool)
structure aS where
 dst:Option ac
 op:bO
 guard:Option (ac×Bool)
 jv:List ac
 re:List i9
inductive bp where
 |skip
 |region(l:List aS)
 |seq(a b:bp)
 |cond(c:aG)(a b:bp)
 |block(id:Nat)(b:bp)
 |loop(b:bp)
 |rangeFunc(f:aG)(params:List ac)(assign body:bp)
 |exit(id:Nat)
 |ret
 |eB(t:Nat)
inductive cG where
 |none
 |exit(id:Nat)
 |ret
inductive rV where
 |ready|busy|done|exhausted
structure aR where
 key:AV
 val:AV
 born:Nat
inductive b9 where
 |none
 |cells(c:am AV)(n:Nat)(elem:Nat)(rw:Bool)(aK:List ac)(fz:Nat)
 |map(es:List aR)(clock:Nat)
 |dB(es:List aR)
 |oq(s:List Nat)(rest:List Nat)(pos:Nat)
 |loop(st:rV)(cq:cG)(fn:Nat)(aa:am AV)(params:List ac)(assign body:bp)(defers:ac)
 |deferred(taken:Bool)
 |mapIter(m:Option ac)(since:Nat)(seen:List Nat)(last:Nat)
 deriving Inhabited
structure af where
 t:am b9
 next:ac
def af.get(H:af)(i:ac):b9:=H.t.get .none i
def af.set(H:af)(i:ac)(o:b9):af:=⟨H.t.set .none i o,H.next⟩
def af.new(H:af)(o:b9):af:=⟨H.t.set .none H.next o,H.next.succ⟩
def af.fL(H:af):List ac→af
 |[]=>H
 |i::l=>(H.set i .none).fL l
inductive iH where
 |tmp(p:ac)
 |cell(p:ac)(agg:Bool)(n:Nat)
inductive aE where
 |none
 |code(nt:Nat)(results:List iH)(body:bp)
 |gZ(f:List AV→af→Option (AV×af))
 |eB(f:am AV→af→Option (am AV×af))
end Go.ak
namespace Go.ak
section
variable{p:Type}(h:p)(ask:Nat→(Nat→p)→p)
def gv(aa:am AV)(x:aG):AV:=
 match x with
 |.t a=>aa.get .aiw a
 |.c v=>v
def ip(c:am AV)(n off:Nat):Nat→Option (List AV)
 |0=>some []
 |m+1=>if off<n then(match ip c n (off+1) m with|some l=>some (c.bq .aiw off::l)|none=>none)else none
def fD(c:am AV)(off:Nat):List AV→am AV
 |[]=>c
 |v::l=>fD (c.nH .aiw off off v) (off+1) l
def cM(l:List AV):am AV:=fD .aJ 0 l
def fj(H:af)(id:ac)(off m:Nat):Option (List AV):=
 match H.get id with
 |.cells c n _ _ _ _=>ip c n off m
 |_=>none
def dI:List AV→Bool
 |[]=>true
 |v::l=>v.dQ&&dI l
def iI(H:af)(id:ac)(off:Nat)(l:List AV):Option af:=
 match H.get id with
 |.cells c n e true aK fz=>
  if decide (fz≤off)&&decide (off+l.length≤n)&&dI l then some ((H.fL aK).set id (.cells (fD c off l) n e true [] fz))else none
 |_=>none
def jO:List Nat→List Nat→Bool
 |[],[]=>true
 |a::l,b::m=>agQ a b&&jO l m
 |_,_=>false
def qJ:List Nat→List Nat→Bool
 |_,[]=>false
 |[],_::_=>true
 |a::l,b::m=>aha a b||(agQ a b&&qJ l m)
def ac.beq:ac→ac→Bool
 |.xH,.xH=>true
 |.xO a,.xO q=>ac.beq a q
 |.xI a,.xI q=>ac.beq a q
 |_,_=>false
def iB:Int→Int→Bool
 |.ofNat a,.ofNat b=>agQ a b
 |.negSucc a,.negSucc b=>agQ a b
 |_,_=>false
def ly:Int→Int→Bool
 |.ofNat a,.ofNat b=>aha a b
 |.negSucc a,.negSucc b=>aha b a
 |.negSucc _,.ofNat _=>true
 |.ofNat _,.negSucc _=>false
def tu(agg:Bool)(l:List AV)(off size:Nat):Option AV:=
 if agg then some (.agg ((l.drop off).take size))else(l.drop off).head?
def dZ:(fuel:Nat)→ep→AV→AV→Option Bool
 |_,.bool,.bool a,.bool b=>some (a==b)
 |_,.int,.int k a,.int l b=>if k=l then some (iB a b)else none
 |_,.aC,.aC a,.aC b=>some (jO a b)
 |_,.aw,.ls,.ls=>some true
 |_,.aw,.ls,.aw _ _=>some false
 |_,.aw,.aw _ _,.ls=>some false
 |_,.aw,.aw a i,.aw b j=>if ac.beq a b then some (agQ i j)else none
 |_,.slice,.aP,.aP=>some true
 |_,.slice,.aP,.slice .. =>some false
 |_,.slice,.slice ..,.aP=>some false
 |_,.map,.cL,.cL=>some true
 |_,.map,.cL,.map _=>some false
 |_,.map,.map _,.cL=>some false
 |_,.func,.nilFunc,.nilFunc=>some true
 |_,.func,.nilFunc,.func .. =>some false
 |_,.func,.func ..,.nilFunc=>some false
 |_,.func,.nilFunc,.yield _=>some false
 |_,.func,.yield _,.nilFunc=>some false
 |_,.iface const empty,.nilIface,.nilIface=>if const||empty then some true else none
 |_,.iface _ _,.nilIface,.iface _ _=>some false
 |_,.iface _ _,.iface _ _,.nilIface=>some false
 |_,.iface _ _,.iface t _,.iface u _=>if agQ t u then none else some false
 |f+1,.eW g,.agg c,.agg e=>go f c e g
 |_,_,_,_=>none
where
 go:(fuel:Nat)→List AV→List AV→List (Nat×Nat×Bool×ep)→Option Bool
  |_,_,_,[]=>some true
  |0,_,_,_::_=>none
  |f+1,c,e,(off,size,agg,d)::g=>
   match tu agg c off size,tu agg e off size with
   |some x,some y=>
    match dZ f d x y with
    |some true=>go f c e g
    |some false=>some false
    |none=>none
   |_,_=>none
def mI(k:Nat)(n:Int):Int:=(ck k).wrap n
def iq(k:Nat)(n:Int):Int:=
 match k,n with
 |3,.ofNat m=>if aha m 9223372036854775808 then .ofNat m else mI 3 (.ofNat m)
 |3,.negSucc m=>if aha m 9223372036854775808 then .negSucc m else mI 3 (.negSucc m)
 |4,.ofNat m=>if aha m 256 then .ofNat m else mI 4 (.ofNat m)
 |k,n=>mI k n
def ir(op:BinOp)(k:Nat)(a b:Int):Option AV:=
 match op with
 |.add=>some (.int k (iq k (a+b)))
 |.sub=>some (.int k (iq k (a - b)))
 |.mul=>some (.int k (iq k (a*b)))
 |.quo=>if b=0 then none else some (.int k (iq k (a.tdiv b)))
 |.rem=>if b=0 then none else some (.int k (a.tmod b))
 |.and=>some (.int k (mI k (ahJ (ck k).bits a&&&ahJ (ck k).bits b).toNat))
 |.or=>some (.int k (mI k (ahJ (ck k).bits a|||ahJ (ck k).bits b).toNat))
 |.xor=>some (.int k (mI k (ahJ (ck k).bits a^^^ahJ (ck k).bits b).toNat))
 |.andNot=>some (.int k (mI k (ahJ (ck k).bits a&&& ~~~ahJ (ck k).bits b).toNat))
 |.eql=>some (.bool (iB a b))
 |.neq=>some (.bool (!iB a b))
 |.lss=>some (.bool (ly a b))
 |.leq=>some (.bool (!ly b a))
 |.gtr=>some (.bool (ly b a))
 |.geq=>some (.bool (!ly a b))
 |_=>none
def Af(op:BinOp)(k:Nat)(x y:AV):Option AV:=
 match x,y with
 |.int j a,.int l b=>if agQ j k&&agQ l k then ir op k a b else none
 |_,_=>none
def CC(op:BinOp)(x y:AV):Option AV:=
 match x,y with
 |.int k a,.int _ (.ofNat b)=>
  let n:=min b (ck k).bits
  match op with
  |.shl=>some (.int k (iq k (a*2^n)))
  |.shr=>some (.int k (a.fdiv (2^n)))
  |_=>none
 |_,_=>none
def Ag(op:BinOp)(x y:AV):Option AV:=
 match x,y with
 |.aC a,.aC b=>
  match op with
  |.add=>if a.length+b.length<4294967296 then some (.aC (a++b))else none
  |.eql=>some (.bool (jO a b))
  |.neq=>some (.bool (!jO a b))
  |.lss=>some (.bool (qJ a b))
  |.leq=>some (.bool (!qJ b a))
  |.gtr=>some (.bool (qJ b a))
  |.geq=>some (.bool (!qJ a b))
  |_=>none
 |_,_=>none
def CD(op:UnOp)(x:AV):Option AV:=
 match op,x with
 |.neg,.int k n=>some (.int k (iq k (0 - n)))
 |.xor,.int k n=>ir .xor k (if(ck k).signed then -1 else(ck k).max) n
 |.not,.bool b=>some (.bool !b)
 |_,_=>none
def tw(l:List AV):(off:Nat)→List AV→Option (List AV)
 |0,[]=>some l
 |0,v::a=>match l with
  |[]=>none
  |_::l=>match tw l 0 a with|some b=>some (v::b)|none=>none
 |off+1,a=>match l with
  |[]=>none
  |x::l=>match tw l off a with|some b=>some (x::b)|none=>none
def nI(aa:am AV)(l:List AV):List (Nat×Nat×aG)→Option (List AV)
 |[]=>some l
 |(off,size,x)::a=>
  let b:=(gv aa x).cells
  if(gv aa x).bB&&decide (b.length=size)then(match tw l off b with|some c=>nI aa c a|none=>none)else none
def fx(a:List AV):Nat→List AV
 |0=>[]
 |n+1=>a++fx a n
def nJ(x:AV)(y:Nat):Option Nat:=
 match x with
 |.int _ (.ofNat i)=>if ahG i y then some i else none
 |_=>none
def ji(aa:am AV)(x:Option aG)(d y:Nat):Option Nat:=
 match x with
 |some x=>nJ (gv aa x) y
 |none=>some d
def findKey(d:ep)(k:AV):List aR→Nat→Option (Option (Nat×AV))
 |[],_=>some none
 |e::es,i=>
  match dZ 64 d k e.key with
  |some true=>some (some (i,e.val))
  |some false=>findKey d k es (i+1)
  |none=>none
def tx:ep→Bool
 |.int|.aC|.bool=>true
 |_=>false
def gf(d:ep)(k:AV)(es:List aR):Option (Option AV):=if tx d then go es else none
where
 go:List aR→Option (Option AV)
  |[]=>some none
  |e::es=>match dZ 64 d k e.key,go es with
   |some true,some none=>some (some e.val)
   |some false,some r=>some r
   |_,_=>none
def mf(d:ep)(k:AV)(e:aR):Bool:=
 match dZ 64 d k e.key with
 |some b=>b
 |none=>false
def lz(d:ep)(k v:AV):List aR→List aR
 |[]=>[]
 |e::es=>(if mf d k e then{e with key:=k,val:=v}else e)::lz d k v es
def mg(d:ep)(k:AV):List aR→List aR
 |[]=>[]
 |e::es=>if mf d k e then mg d k es else e::mg d k es
def kF(v:AV)(k:AV):List aR→Nat→List aR
 |[],_=>[]
 |e::es,0=>{e with key:=k,val:=v}::es
 |e::es,i+1=>e::kF v k es i
def oX:List aR→Nat→List aR
 |[],_=>[]
 |_::es,0=>es
 |e::es,i+1=>e::oX es i
def uP:List aR→Nat→Nat
 |[],_=>0
 |e::_,0=>e.born
 |_::es,i+1=>uP es i
def pG(b:Nat):List aR→Nat→Option Nat
 |[],_=>none
 |e::es,i=>if agQ e.born b then some i else pG b es (i+1)
def iS(H:af)(size:Nat)(x:AV):Option (Nat×List AV):=
 match x with
 |.aP=>some (0,[])
 |.slice id off len _ _=>match fj H id off (len*size)with|some l=>some (len,l)|none=>none
 |.aC s=>if agQ size 1 then some (s.length,s.map λn=>.int 4 (.ofNat n))else none
 |_=>none
def fc(n:Nat):Bool:=ahG n 70368744177664
def kw(b bytes size:Nat)(H:af)(s:AV)(n:Nat)(l:List AV):Option (AV×af):=
 if !dI l then none else
 match s with
 |.aP=>
  if agQ n 0 then some (.aP,H)
  else if fc (n*bytes)&&fc n then some (.slice H.next 0 n n false,H.new (.cells (cM l) (n*size) b true [] 0))else none
 |.slice id off len cap exact=>
  let a:=len+n
  if ahG a cap then
   if agQ n 0 then some (.slice id off a cap exact,H)else
   match iI H id (off+len*size) l with
   |some H'=>some (.slice id off a cap exact,H')
   |none=>none
  else if !(fc (a*bytes)&&fc a)then none else
   match H.get id with
   |.cells c m e rw aK fz=>
    match ip c m off (len*size)with
    |none=>none
    |some dJ=>
     if exact then some (.slice H.next 0 a a false,H.new (.cells (cM (dJ++l)) (a*size) b true [] 0))
     else if rw&&agQ len cap&&agQ (off+cap*size) m&&agQ e b&&ahG fz m then
      some (.slice H.next 0 a a false,(H.set id (.cells c m e false aK fz)).new (.cells (cM (dJ++l)) (a*size) b true (id::aK) (fz - off)))
     else none
   |_=>none
 |_=>none
def ja(H:af)(a:AV)(n:Nat)(agg:Bool):Option AV:=
 match a with
 |.aw id off=>
  match fj H id off n with
  |some l=>if agg then some (.agg l)else l.head?
  |none=>none
 |_=>none
def yw(c:Bool):AV→List AV→Option AV
 |x,[]=>some x
 |.int k a,.int l b::d=>if agQ k l then yw c (.int k (if c then(if ly a b then b else a)else(if ly b a then b else a))) d else none
 |_,_=>none
def JU:AV→Option Nat
 |.int 4 (.ofNat n)=>if aha n 256 then some n else none
 |_=>none
def Ah:List AV→Option (List Nat)
 |[]=>some []
 |v::l=>match JU v,Ah l with
  |some n,some r=>some (n::r)
  |_,_=>none
def Ai:List Nat→Nat→Option Nat
 |[],_=>none
 |a::_,0=>some a
 |_::l,i+1=>Ai l i
def pH:List AV→Nat→Option AV
 |[],_=>none
 |a::_,0=>some a
 |_::l,i+1=>pH l i
def rW:(fuel:Nat)→ep→AV→Bool
 |_,.bool,.bool _=>true
 |_,.int,.int _ _=>true
 |_,.aC,.aC _=>true
 |_,.aw,.aw _ _=>true
 |_,.aw,.ls=>true
 |f+1,.eW b,.agg a=>go f a b
 |_,_,_=>false
where
 go:(fuel:Nat)→List AV→List (Nat×Nat×Bool×ep)→Bool
  |_,_,[]=>true
  |0,_,_::_=>false
  |f+1,a,(off,size,agg,d)::b=>match tu agg a off size with
   |some x=>rW f d x&&go f a b
   |none=>false
def jk(d:ep)(k:AV):Bool:=
 match d with
 |.eW _=>rW 64 d k
 |.iface _ _=>false
 |_=>true
def EU:AV→AV→Bool
 |.bool a,.bool b=>a==b
 |.int j a,.int k b=>agQ j k&&iB a b
 |.aC a,.aC b=>jO a b
 |_,_=>false
def yz:List AV→List AV→Bool
 |[],[]=>true
 |a::l,b::m=>EU a b&&yz l m
 |_,_=>false
def ww(d:ep)(k:AV):List aR→Nat→Bool
 |[],_=>false
 |e::_,0=>match d,k,e.key with
  |.eW _,.agg l,.agg m=>yz l m
  |.eW _,_,_=>false
  |_,_,_=>true
 |_::es,i+1=>ww d k es i
def rX(H:af)(id:ac)(a:Nat):Bool:=
 match H.get id with
 |.cells _ _ e _ _ _=>agQ e a
 |_=>false
def aB(o:bO)(aa:am AV)(H:af):Option (AV×af):=
 let pure(v:AV):Option (AV×af):=some (v,H)
 let r(v:Option AV):Option (AV×af):=v.map λv=>(v,H)
 match o with
 |.bg x=>pure (gv aa x)
 |.pick c a b=>match gv aa c with
  |.bool t=>pure (if t then gv aa a else gv aa b)
  |_=>none
 |.box q x=>
  let l:=(gv aa x).cells
  if dI l then some (.aw H.next 0,H.new (.cells (cM l) l.length q true [] 0))else none
 |.alloc q z=>some (.aw H.next 0,H.new (.cells (cM z) z.length q true [] 0))
 |.build z eW=>r ((nI aa z eW).map .agg)
 |.buildSlice q len z eW=>
  match nI aa (fx z len) eW with
  |some l=>if dI l then some (.slice H.next 0 len len true,H.new (.cells (cM l) l.length q true [] 0))else none
  |none=>none
 |.aW a=>r (ja H (gv aa a) 1 false)
 |.fZ n a=>r (ja H (gv aa a) n true)
 |.store n a x=>
  match gv aa a with
  |.aw id off=>
   let l:=(gv aa x).cells
   if l.length=n then(match iI H id off l with|some H'=>some (.aiw,H')|none=>none)else none
  |_=>none
 |.nilCheck x=>match gv aa x with
  |.aw id off=>pure (.aw id off)
  |.func f a b=>pure (.func f a b)
  |.yield l=>pure (.yield l)
  |.iface t v=>pure (.iface t v)
  |.map m=>pure (.map m)
  |.slice a b c d e=>pure (.slice a b c d e)
  |_=>none
 |.arith op k x y=>r (Af op k (gv aa x) (gv aa y))
 |.shift op x y=>r (CC op (gv aa x) (gv aa y))
 |.il op x y=>r (Ag op (gv aa x) (gv aa y))
 |.eq G d x y=>r ((dZ 64 d (gv aa x) (gv aa y)).map λb=>.bool (b !=G))
 |.unary op x=>r (CD op (gv aa x))
 |.lu k x=>match gv aa x with
  |.int _ n=>pure (.int k (iq k n))
  |_=>none
 |.wn q x=>match gv aa x with
  |.aC s=>some (.slice H.next 0 s.length s.length false,H.new (.cells (cM (s.map λn=>.int 4 (.ofNat n))) s.length q true [] 0))
  |_=>none
 |.Ad x=>match gv aa x with
  |.aC s=>pure (.aC s)
  |_=>none
 |.wp x=>match gv aa x with
  |.aP=>pure (.aC [])
  |.slice id off len _ _=>match fj H id off len with
   |some l=>(Ah l).map λs=>(.aC s,H)
   |none=>none
  |_=>none
 |.lw t x=>pure (.iface t (gv aa x))
 |.iG f a b=>pure (.func f (a.map (gv aa)) (b.map (gv aa)))
 |.j7=>some (.map H.next,H.new (.map [] 0))
 |.jr q bytes size z len cap=>
  match gv aa len,gv aa cap with
  |.int 3 (.ofNat l),.int 3 (.ofNat c)=>
   if ahG l c&&fc (c*bytes)&&fc c then some (.slice H.next 0 l c true,H.new (.cells (cM (fx z c)) (c*size) q true [] 0))else none
  |_,_=>none
 |.yr n size x lo hi C=>
  match gv aa x with
  |.aw id off=>do
   let m←ji aa C n n
   let I←ji aa hi n m
   let l←ji aa lo 0 I
   some (.slice id (if m=l then off else off+l*size) (I - l) (m - l) true,H)
  |_=>none
 |.gR q size x lo hi C=>
  match gv aa x with
  |.aP=>do
   let m←ji aa C 0 0
   let I←ji aa hi 0 m
   let _←ji aa lo 0 I
   some (.aP,H)
  |.slice id off len cap exact=>do
   let m←ji aa C cap cap
   let I←ji aa hi len m
   let l←ji aa lo 0 I
   if exact||C.isSome||lo.isNone||rX H id q then
    some (.slice id (if exact&&m=l then off else off+l*size) (I - l) (m - l) (exact||C.isSome),H)
   else none
  |_=>none
 |.wt x lo hi=>
  match gv aa x with
  |.aC s=>do
   let n:=s.length
   let I←ji aa hi n n
   let l←ji aa lo 0 I
   some (.aC ((s.drop l).take (I - l)),H)
  |_=>none
 |.jM off x=>match gv aa x with
  |.aw id o=>pure (.aw id (o+off))
  |_=>none
 |.part agg off size x=>match gv aa x with
  |.agg l=>r (tu agg l off size)
  |_=>none
 |.rU n size x i=>match gv aa x,gv aa i with
  |.aw id o,.int _ (.ofNat j)=>if aha j n then pure (.aw id (o+j*size))else none
  |_,_=>none
 |.dk size x i=>match gv aa x,gv aa i with
  |.slice id o len _ _,.int _ (.ofNat j)=>if aha j len then pure (.aw id (o+j*size))else none
  |_,_=>none
 |.Ae agg n size x i=>match gv aa x,gv aa i with
  |.agg l,.int _ (.ofNat j)=>if aha j n then r (tu agg l (j*size) size)else none
  |_,_=>none
 |.mH x i=>match gv aa x,gv aa i with
  |.aC s,.int _ (.ofNat j)=>r ((Ai s j).map λn=>.int 4 (.ofNat n))
  |_,_=>none
 |.lookup key zero ok m k=>
  if !jk key (gv aa k)then none else
  let aq(v:AV)(b:Bool):Option (AV×af):=pure (if ok then .tuple [v,.bool b]else v)
  match gv aa m with
  |.cL=>aq zero false
  |.map id=>match H.get id with
   |.map es _=>match findKey key (gv aa k) es 0 with
    |some (some (_,v))=>aq v true
    |some none=>aq zero false
    |none=>none
   |.dB es=>match gf key (gv aa k) es with
    |some (some v)=>aq v true
    |some none=>aq zero false
    |none=>none
   |_=>none
  |_=>none
 |.ju key m k v=>
  if !jk key (gv aa k)then none else
  match gv aa m with
  |.map id=>match H.get id with
   |.map es g=>match findKey key (gv aa k) es 0 with
    |some (some (i,_))=>if ww key (gv aa k) es i then some (.aiw,H.set id (.map (kF (gv aa v) (gv aa k) es i) g))else none
    |some none=>some (.aiw,H.set id (.map (es++[⟨gv aa k,gv aa v,g⟩]) (g+1)))
    |none=>none
   |.dB es=>match gf key (gv aa k) es with
    |some (some _)=>some (.aiw,H.set id (.dB (lz key (gv aa k) (gv aa v) es)))
    |some none=>some (.aiw,H.set id (.dB (es++[⟨gv aa k,gv aa v,0⟩])))
    |none=>none
   |_=>none
  |_=>none
 |.mapEntry key zero m k=>
  if !jk key (gv aa k)then none else
  match gv aa m with
  |.map id=>match H.get id with
   |.map es g=>match findKey key (gv aa k) es 0 with
    |some (some (i,v))=>if ww key (gv aa k) es i then some (.tuple [v,.int 3 (.ofNat (uP es i))],H.set id (.map (kF v (gv aa k) es i) g))else none
    |some none=>some (.tuple [zero,.int 3 (.ofNat g)],H.set id (.map (es++[⟨gv aa k,zero,g⟩]) (g+1)))
    |none=>none
   |_=>none
  |_=>none
 |.entryStore m s v=>
  match gv aa m,gv aa s with
  |.map id,.int _ (.ofNat b)=>match H.get id with
   |.map es g=>match pG b es 0 with
    |some i=>some (.aiw,H.set id (.map (es.modify i λe=>{e with val:=gv aa v}) g))
    |none=>none
   |_=>none
  |_,_=>none
 |.qI x=>match gv aa x with
  |.aC s=>some (.aw H.next 0,H.new (.oq s s 0))
  |_=>none
 |.uO F=>match gv aa F with
  |.aw id 0=>match H.get id with
   |.oq s w D=>match w with
    |[]=>pure (.tuple [.bool false])
    |c::w=>if aha c 128 then some (.tuple [.bool true,.int 3 (.ofNat D),.int 2 (.ofNat c)],H.set id (.oq s w (D+1)))else none
   |_=>none
  |_=>none
 |.oh x=>match gv aa x with
  |.cL=>some (.aw H.next 0,H.new (.mapIter none 0 [] 0))
  |.map m=>match H.get m with
   |.map _ g=>some (.aw H.next 0,H.new (.mapIter (some m) g [] g))
   |_=>none
  |_=>none
 |.lx _|.oW=>none
 |.tq F=>match gv aa F with
  |.aw id 0=>match H.get id with
   |.mapIter (some m) _ seen E=>match seen.getLast?,H.get m with
    |some b,.map es g=>if agQ g E then(match pG b es 0 with
     |some i=>match es[i]? with
      |some e=>pure (.tuple [e.key,e.val])
      |none=>none
     |none=>none)else none
    |_,_=>none
   |_=>none
  |_=>none
 |.typeAssert t zero ok x=>match gv aa x with
  |.nilIface=>if ok then pure (.tuple [zero,.bool false])else none
  |.iface u v=>if agQ u t then pure (if ok then .tuple [v,.bool true]else v)else if ok then pure (.tuple [zero,.bool false])else none
  |_=>none
 |.extract x i=>match gv aa x with
  |.tuple l=>r (pH l i)
  |_=>none
 |.pE n=>pure (.int 3 (.ofNat n))
 |.ku x=>match gv aa x with
  |.aC s=>pure (.int 3 (.ofNat s.length))
  |_=>none
 |.jN x=>match gv aa x with
  |.slice _ _ n _ _=>pure (.int 3 (.ofNat n))
  |.aP=>pure (.int 3 (.ofNat 0))
  |_=>none
 |.wu x=>match gv aa x with
  |.cL=>pure (.int 3 (.ofNat 0))
  |.map id=>match H.get id with
   |.map es _=>pure (.int 3 (.ofNat es.length))
   |.dB es=>pure (.int 3 (.ofNat es.length))
   |_=>none
  |_=>none
 |.cap x=>match gv aa x with
  |.slice _ _ _ n true=>pure (.int 3 (.ofNat n))
  |.aP=>pure (.int 3 (.ofNat 0))
  |_=>none
 |.append q bytes size z A s x=>
  if A then
   match gv aa x with
   |.int 3 (.ofNat n)=>if fc (n*bytes)&&fc n then kw q bytes size H (gv aa s) n (fx z n)else none
   |_=>none
  else
   match iS H size (gv aa x)with
   |some (n,l)=>kw q bytes size H (gv aa s) n l
   |none=>none
 |.copy size d s=>
  match gv aa d,iS H size (gv aa s)with
  |.aP,some _=>pure (.int 3 (.ofNat 0))
  |.slice id off len _ _,some (n,l)=>
   let m:=min n len
   if m=0 then pure (.int 3 (.ofNat 0))else
   match iI H id off (l.take (m*size))with
   |some H'=>some (.int 3 (.ofNat m),H')
   |none=>none
  |_,_=>none
 |.yt z x=>match gv aa x with
  |.aP=>pure .aiw
  |.slice id off n _ _=>if n=0 then pure .aiw else match iI H id off (fx z n)with
   |some H'=>some (.aiw,H')
   |none=>none
  |_=>none
 |.yu x=>match gv aa x with
  |.cL=>pure .aiw
  |.map id=>match H.get id with
   |.map _ g=>some (.aiw,H.set id (.map [] g))
   |_=>none
  |_=>none
 |.delete key m k=>
  if !jk key (gv aa k)then none else
  match gv aa m with
  |.cL=>pure .aiw
  |.map id=>match H.get id with
   |.map es g=>match findKey key (gv aa k) es 0 with
    |some (some (i,_))=>some (.aiw,H.set id (.map (oX es i) g))
    |some none=>some (.aiw,H.set id (.map es g))
    |none=>none
   |.dB es=>match gf key (gv aa k) es with
    |some _=>some (.aiw,H.set id (.dB (mg key (gv aa k) es)))
    |none=>none
   |_=>none
  |_=>none
 |.pF B l=>match l.map (gv aa)with
  |x::w=>r (yw B x w)
  |[]=>none
 |.call _ _=>none
def tz(H:af)(f:AV):Option (List (Option aR)×(Option aR→AV×af)):=
 match f with
 |.aw id 0=>match H.get id with
  |.mapIter none _ _ _=>some ([none],λ_=>(.tuple [.bool false],H))
  |.mapIter (some m) a seen d=>match H.get m with
   |.map es b=>
    if !seen.isEmpty&&!es.isEmpty&&es.all (λe=>ahG d e.born)then none else
    let left:=es.filter λe=>!seen.contains e.born
    let dJ:=left.filter λe=>aha e.born a
    let new:=left.filter λe=>!aha e.born a
    some ((if dJ.isEmpty then[none]else[])++(dJ++new).map some,λc=>match c with
     |some e=>(.tuple [.bool true,e.key,e.val],H.set id (.mapIter (some m) a (seen++[e.born]) b))
     |none=>(.tuple [.bool false],H))
   |_=>none
  |_=>none
 |_=>none
def fM:AV→AV→Bool
 |.bool a,.bool b=>a==b
 |.int k a,.int l b=>agQ k l&&iB a b
 |.aC a,.aC b=>jO a b
 |.aw a i,.aw b j=>ac.beq a b&&agQ i j
 |.ls,.ls=>true
 |.slice a i j k e,.slice b l m n f=>ac.beq a b&&agQ i l&&agQ j m&&agQ k n&&(e==f)
 |.aP,.aP=>true
 |.map a,.map b=>ac.beq a b
 |.cL,.cL=>true
 |.yield a,.yield b=>ac.beq a b
 |.nilFunc,.nilFunc=>true
 |.nilIface,.nilIface=>true
 |_,_=>false
def ou:List AV→List AV→Bool
 |[],[]=>true
 |a::l,b::m=>fM a b&&ou l m
 |_,_=>false
def hZ:AV→AV→Bool
 |.agg l,.agg m=>ou l m
 |.tuple l,.tuple m=>ou l m
 |.func f a b,.func g c d=>agQ f g&&ou a c&&ou b d
 |a,b=>fM a b
def jd:AV→Option ac
 |.aw i _=>some i
 |.slice i _ _ _ _=>some i
 |.map i=>some i
 |_=>none
def eM(aa:am AV)(H:af):List ac→af×List (ac×b9)
 |[]=>(H,[])
 |a::l=>match jd (aa.get .aiw a)with
  |some i=>let r:=eM aa (H.set i .none) l;(r.1,(i,H.get i)::r.2)
  |none=>eM aa H l
def d8(H:af):List (ac×b9)→af
 |[]=>H
 |(i,o)::l=>(d8 H l).set i o
def kx:List AV→ac→am AV→am AV
 |[],_,t=>t
 |v::l,a,t=>kx l a.succ (t.set .aiw a v)
def ow:List ac→List AV→am AV→am AV
 |c::a,v::b,t=>ow a b (t.set .aiw c v)
 |_,_,t=>t
def gG(aa:am AV)(H:af):List iH→Option (List AV)
 |[]=>some []
 |.tmp a::l=>(gG aa H l).map (aa.get .aiw a::·)
 |.cell a agg n::l=>match ja H (aa.get .aiw a) n agg,gG aa H l with
  |some v,some r=>some (v::r)
  |_,_=>none
def iu:List AV→AV
 |[v]=>v
 |l=>.tuple l
structure Fr where
 aa:am AV
 bF:List ac
 bD:Option ac
def aM(aa:am AV)(d:Option ac)(v:AV):am AV:=
 match d with
 |some a=>aa.set .aiw a v
 |none=>aa
def ft(aa:am AV):Option (ac×Bool)→Bool
 |none=>true
 |some (c,a)=>match aa.get .aiw c with
  |.bool b=>b==a
  |_=>false
def lA(aa:am AV):Option (ac×Bool)→Bool
 |none=>true
 |some (a,_)=>(aa.get .aiw a).bB
def fh(aa:am AV)(H:af):List i9→Bool
 |[]=>true
 |r::l=>
  (if ft aa r.guard then(match aB r.op aa H with
    |some (w,_)=>hZ (aa.get .aiw r.dst) w
    |none=>false)else true)&&fh aa H l
def jw(H:af):List ac→Option af
 |[]=>some H
 |i::l=>match H.get i with
  |.deferred false=>jw (H.set i (.deferred true)) l
  |_=>none
variable(ab:Nat→aE)
mutual
def exec:(n:Nat)→bp→Fr→af→(cG→Fr→af→p)→p
 |0,_,_,_,_=>h
 |n+1,c,fr,H,K=>
  match c with
  |.skip=>K .none fr H
  |.region l=>az n l fr H (K .none)
  |.seq a b=>exec n a fr H λj fr H=>match j with
   |.none=>exec n b fr H K
   |j=>K j fr H
  |.cond c a b=>match gv fr.aa c with
   |.bool true=>exec n a fr H K
   |.bool false=>exec n b fr H K
   |_=>h
  |.block id b=>exec n b fr H λj fr H=>match j with
   |.exit i=>if agQ i id then K .none fr H else K (.exit i) fr H
   |j=>K j fr H
  |.loop b=>exec n b fr H λj fr H=>match j with
   |.none=>exec n (.loop b) fr H K
   |j=>K j fr H
  |.exit id=>K (.exit id) fr H
  |.ret=>K .ret fr H
  |.eB t=>match ab t with
   |.eB g=>match g fr.aa H with
    |some (aa,H)=>K .none {fr with aa:=aa} H
    |none=>h
   |_=>h
  |.rangeFunc f params assign body=>
   let go(fr:Fr)(H:af)(d:ac):p:=
    gS n (gv fr.aa f) [.yield H.next] (H.new (.loop .ready .none 0 fr.aa params assign body d)) λ_ H'=>
     match H'.get H.next with
     |.loop st cq fn aa e as k d=>
      match st with
      |.busy=>h
      |_=>K cq fr (H'.set H.next (.loop .exhausted cq fn aa e as k d))
     |_=>h
   match fr.bD with
   |none=>go {fr with bF:=H.next::fr.bF} (H.new (.deferred false)) H.next
   |some l=>match H.get l with
    |.loop _ _ _ _ _ _ _ d=>go fr H d
    |_=>h
def az:(n:Nat)→List aS→Fr→af→(Fr→af→p)→p
 |0,_,_,_,_=>h
 |_+1,[],fr,H,K=>K fr H
 |n+1,o::l,fr,H,K=>
  if ft fr.aa o.guard then
   let d:=eM fr.aa H o.jv
   let after(v:AV)(H:af):p:=
    let aa:=aM fr.aa o.dst v
    let H:=d8 H d.2
    if fh aa H o.re then az n l {fr with aa:=aa} H K else h
   match o.op with
   |.call f args=>gS n (gv fr.aa f) (args.map (gv fr.aa)) d.1 after
   |.lx b=>match tz d.1 (gv fr.aa b)with
    |some (cs,a)=>ask cs.length λi=>match cs[i]? with
     |some c=>after (a c).1 (a c).2
     |none=>h
    |none=>h
   |op=>match aB op fr.aa d.1 with
    |some (v,H)=>after v H
    |none=>h
  else if lA fr.aa o.guard then az n l {fr with aa:=aM fr.aa o.dst .aiw} H K else h
def gS:(n:Nat)→AV→List AV→af→(AV→af→p)→p
 |0,_,_,_,_=>h
 |n+1,f,args,H,K=>
  match f with
  |.func f first a=>
   match ab f with
   |.none|.eB _=>h
   |.gZ g=>match g (first++args++a) H with
    |some (v,H)=>K v H
    |none=>h
   |.code e results body=>
    if ahG (first++args++a).length e then
    exec n body ⟨kx (first++args++a) .xH .aJ,[],none⟩ H λj fr H=>
     match j with
     |.exit _=>h
     |_=>match jw H fr.bF with
      |some H=>match gG fr.aa H results with
       |some l=>K (iu l) H
       |none=>h
      |none=>h
    else h
  |.yield l=>
   match H.get l with
   |.loop st cq fn aa b as c d=>
    match st with
    |.ready=>
     if args.length=b.length then
      exec n as ⟨ow b args aa,[],some l⟩ H λj fr H=>
       match j,H.get l with
       |.none,.loop .ready cq fn aa b as bd' d=>
        exec n c fr (H.set l (.loop .busy cq fn aa b as bd' d)) λj _ H=>
         match H.get l with
         |.loop _ _ fn aa b as c d=>
          match j with
          |.none=>K (.bool true) (H.set l (.loop .ready .none fn aa b as c d))
          |j=>K (.bool false) (H.set l (.loop .done j fn aa b as c d))
         |_=>h
       |_,_=>h
     else h
    |_=>h
   |_=>h
  |_=>h
end
end
abbrev T:=aG.t
abbrev C:=aG.c
abbrev I(k n:Nat):aG:=.c (.int k (.ofNat n))
abbrev J(k n:Nat):aG:=.c (.int k (.negSucc n))
abbrev O(d:ac)(o:bO):aS:=⟨some d,o,none,[],[]⟩
abbrev N(o:bO):aS:=⟨none,o,none,[],[]⟩
abbrev R(d:ac)(o:bO)(h:List ac)(re:List i9):aS:=⟨some d,o,none,h,re⟩
abbrev M(o:bO)(h:List ac)(re:List i9):aS:=⟨none,o,none,h,re⟩
abbrev G(d:ac)(o:bO)(g:ac)(b:Bool):aS:=⟨some d,o,some (g,b),[],[]⟩
abbrev G'(d:Option ac)(o:bO)(g:ac)(b:Bool)(h:List ac)(re:List i9):aS:=⟨d,o,some (g,b),h,re⟩
abbrev i(k n:Nat):AV:=.int k (.ofNat n)
abbrev j(k n:Nat):AV:=.int k (.negSucc n)
end Go.ak
end
