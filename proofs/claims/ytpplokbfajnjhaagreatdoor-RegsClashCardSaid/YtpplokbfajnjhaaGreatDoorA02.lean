/- A part. No conditions. -/
import Derived.Test.YtpplokbfajnjhaaGreatDoorA00
import GoSem.Core.Region
import Derived.Control
import Derived.Below
import Derived.Laws.IdiomCopy
import Derived.Laws.Cells
import GoSem.Dispatch
import Derived.Laws.StructEq
import Derived.Lib.ConvBytes
import Derived.Laws.BytesString
import Derived.Laws.AppendOwn
import Derived.ChangeKeysEq
import Derived.Laws.RangeString
import Derived.RangeFuncIn
import Derived.Orders
set_option linter.all false
open List renaming range->ah7
open Nat renaming beq->ah8,blt->aiu,ble->ai0
open Int renaming ofNat->aiC
open Array renaming filter->ajv,replicate->ajI,range->ajQ
open List.Perm renaming swap->aiK
open BitVec renaming ofInt->ai4
open UInt8 renaming toNat->ajs,ofNat->ajK
open List.Pairwise renaming nil->ajO
open Eq renaming mpr->ajP
noncomputable section
namespace Go.al
section
abbrev KT:=AV->ai->Prop
mutual
def jK:Value->Option AV
 |.bool b=>some (.bool b)
 |.int k n=>some (.int (kc k) n)
 |.string s=>some (.str (s.data.toList.map ajs))
 |.pointer none=>some .j5
 |.slice none 0 0=>some .bh
 |.map none=>some .cL
 |.nilFunc=>some .nilFunc
 |.nilIface=>some .nilIface
 |.func (.func f) a b=>match so a.toList,so b.toList with
  |some a,some b=>some (.func f a b)
  |_,_=>none
 |.agg l=>(so l.toList).map .agg
 |.tuple l=>(so l.toList).map .tuple
 |.iface t v=>(jK v).map (.iface t)
 |_=>none
def so:List Value->Option (List AV)
 |[]=>some []
 |v::l=>match jK v,so l with
  |some v,some l=>some (v::l)
  |_,_=>none
end
variable(P:Program)(nt:Nat)
def ff:Operand->Option aJ
 |.tmp t=>if t<nt then some (.t (ah.cG t))else none
 |.const v=>(jK v).map .c
 |.global g=>if g<P.globals.size then some (.c (.aD (ah.cG g) 0))else none
 |.func f=>some (.c (.func f [] []))
def sq(l:Array Operand):Option (List aJ):=l.toList.mapM (ff P nt)
def oQ:Option Operand->Option (Option aJ)
 |none=>some none
 |some x=>(ff P nt x).map some
def iJ(t:TypeId):Option TypeInfo:=P.info? t
def gz(t:TypeId):Option TypeDesc:=P.underlying t
def eW(t:TypeId):Option Nat:=(P.info? t).map (·.size)
def vW(t:TypeId):Option Nat:=(P.info? t).map (·.bytes)
def nJ(t:TypeId):Option AV:=(P.info? t).bind λi=>i.zero.bind jK
def mN(t:TypeId):Option Bool:=(P.underlying t).map λd=>match d with|.struct _|.array _ _=>true|_=>false
def iy:(fuel:Nat)->(const:Bool)->TypeId->Option dA
 |0,_,_=>none
 |f+1,const,t=>
  match P.underlying t with
  |some .bool=>some .bool
  |some (.int _)=>some .int
  |some .string=>some .str
  |some (.pointer e)=>match eW P e with
   |some (_+1)=>some .aD
   |_=>none
  |some (.slice _)=>some .slice
  |some (.map ..)=>some .map
  |some (.func ..)=>some .func
  |some (.interface b)=>some (.iface const b.isEmpty)
  |some (.struct fs)=>
   if P.stoodInHeld t then none else
   (fs.toList.mapM λ(g:Field)=>if g.name= "_" then none else match iy f false g.type,eW P g.type,mN P g.type with
    |some d,some s,some a=>some (g.offset,s,a,d)
    |_,_,_=>none).map .dW
  |some (.array n e)=>match iy f false e,eW P e,mN P e with
   |some d,some s,some a=>some (.dW ((ah7 n).map λi=>(i*s,s,a,d)))
   |_,_,_=>none
  |_=>none
def rc(t:TypeId):Option dA:=
 match P.underlying t with
 |some (.int _)|some .string|some .bool|some (.struct _)|some (.array ..)=>iy P 16 false t
 |_=>none
def vX(d:dA)(t:TypeId):Bool:=
 match d with
 |.dW _=>!P.eqGuardType P.depth t
 |_=>true
def oS:Operand->Bool
 |.const _=>true
 |_=>false
def bL(o:Oper):Option bJ:=do
 let g:=ff P nt
 match o.op with
 |.move x|.assign x=>return .bg (<-g x)
 |.pick c a b=>return .pick (<-g c) (<-g a) (<-g b)
 |.alloc e=>return .alloc e (<-nJ P e).cells
 |.box e x=>return .box e (<-g x)
 |.build t dW=>
  let r:=(<-nJ P t).cells
  match<-gz P t with
  |.struct fs=>
   let u<-fs.toList.mapM λ(f:Field)=>(eW P f.type).map λs=>(f.offset,s)
   let l<-dW.toList.mapM λ(p:Nat×Operand)=>(u[p.1]?).bind λq=>(g p.2).map λx=>(q.1,q.2,x)
   return .build r l
  |.array _ e=>
   let s<-eW P e
   let l<-dW.toList.mapM λ(p:Nat×Operand)=>(g p.2).map λx=>(p.1*s,s,x)
   return .build r l
  |_=>none
 |.buildSlice t len dW=>
  match<-gz P t with
  |.slice e=>
   let s<-eW P e
   let r:=(<-nJ P e).cells
   if r.length≠s\/s=0\/len*s>65536 then none else
   let l<-dW.toList.mapM λ(p:Nat×Operand)=>(g p.2).map λx=>(p.1*s,s,x)
   return .buildSlice e len r l
  |_=>none
 |.load t a=>if<-mN P t then return .eF (<-eW P t) (<-g a)else return .be (<-g a)
 |.store t a x=>return .store (<-eW P t) (<-g a) (<-g x)
 |.nilCheck x=>return .nilCheck (<-g x)
 |.binOp op t x y _=>
  match op,<-gz P t with
  |.shl,.int _|.shr,.int _=>return .shift op (<-g x) (<-g y)
  |_,.int k=>return .arith op (kc k) (<-g x) (<-g y)
  |_,.string=>return .kr op (<-g x) (<-g y)
  |.eql,_=>
   let d<-iy P 16 (oS x||oS y) t
   if vX P d t then return .eq false d (<-g x) (<-g y)else none
  |.neq,_=>
   let d<-iy P 16 (oS x||oS y) t
   if vX P d t then return .eq true d (<-g x) (<-g y)else none
  |_,_=>none
 |.unOp op _ x=>return .unary op (<-g x)
 |.convert s d x=>
  match<-gz P s,<-gz P d with
  |.int _,.int k=>return .ku (kc k) (<-g x)
  |.slice e,.string=>if(<-gz P e)matches .int .u8 then return .oJ (<-g x)else none
  |_,_=>none
 |.makeInterface t x=>if(<-gz P t)matches .interface _ then none else return .mG t (<-g x)
 |.makeFunc (.func f) a b=>return .lf f (<-sq P nt a) (<-sq P nt b)
 |.makeMap _ none=>return .kw
 |.makeMap _ (some _)=>none
 |.makeSlice t l c=>
  match<-gz P t with
  |.slice e=>
   let s<-eW P e
   let r:=(<-nJ P e).cells
   if r.length≠s\/s=0 then none else return .mH e (<-vW P e) s r (<-g l) (<-g c)
  |_=>none
 |.slice t x lo hi A=>
  match<-gz P t with
  |.slice e=>if A.isSome&&hi.isNone then none else
   let s<-eW P e
   if s=0 then none else return .gW e s (<-g x) (<-oQ P nt lo) (<-oQ P nt hi) (<-oQ P nt A)
  |_=>none
 |.fieldAddr t x i=>
  match<-gz P t with
  |.struct fs=>
   let f<-fs[i]?
   if(<-eW P f.type)=0 then none else return .iU f.offset (<-g x)
  |_=>none
 |.field t x i=>
  match<-gz P t with
  |.struct fs=>
   let f<-fs[i]?
   return .part (<-mN P f.type) f.offset (<-eW P f.type) (<-g x)
  |_=>none
 |.indexAddr t x i=>
  match<-gz P t with
  |.array n e=>return .qS n (<-eW P e) (<-g x) (<-g i)
  |.slice e=>return .dI (<-eW P e) (<-g x) (<-g i)
  |_=>none
 |.index t x i=>
  match<-gz P t with
  |.string=>return .nH (<-g x) (<-g i)
  |_=>none
 |.lookup t m k ok=>
  match<-gz P t with
  |.map w e=>return .lookup (<-rc P w) (<-nJ P e) ok (<-g m) (<-g k)
  |_=>none
 |.mapUpdate t m k v|.insert t m k v=>
  match<-gz P t with
  |.map w _=>return .jI (<-rc P w) (<-g m) (<-g k) (<-g v)
  |_=>none
 |.range t x=>match<-gz P t with
  |.string=>return .pH (<-g x)
  |.map .. =>return .lZ (<-g x)
  |_=>none
 |.entry z=>return .qT (<-g z)
 |.next z j=>if j then return .si (<-g z)else return .j6 (<-g z)
 |.typeAssert x _ t ok=>if(<-gz P t)matches .interface _ then none else return .typeAssert t (<-nJ P t) ok (<-g x)
 |.extract x i=>return .extract (<-g x) i
 |.call c=>
  match c.callee with
  |.value f=>return .call (<-g f) (<-sq P nt c.args)
  |.builtin b=>
   let h(i:Nat):Option aJ:=(c.args[i]?).bind g
   match b with
   |.len=>match<-gz P (<-c.argTypes[0]?)with
    |.string=>return .mI (<-h 0)
    |.slice _=>return .jd (<-h 0)
    |.map .. =>return .sj (<-h 0)
    |_=>none
   |.cap=>match<-gz P (<-c.argTypes[0]?)with
    |.slice _=>return .cap (<-h 0)
    |_=>none
   |.append=>match<-gz P (<-c.argTypes[0]?)with
    |.slice e=>
     let s<-eW P e
     let r:=(<-nJ P e).cells
     if r.length≠s\/s=0\/c.args.size≠2 then none else
     let d<-gz P (<-c.argTypes[1]?)
     return .append e (<-vW P e) s r (d matches .int _) (<-h 0) (<-h 1)
    |_=>none
   |.copy=>match<-gz P (<-c.argTypes[0]?)with
    |.slice e=>return .copy (<-eW P e) (<-h 0) (<-h 1)
    |_=>none
   |.clear=>match<-gz P (<-c.argTypes[0]?)with
    |.slice e=>return .ye (<-nJ P e).cells (<-h 0)
    |_=>none
   |.delete=>match<-gz P (<-c.argTypes[0]?)with
    |.map w _=>return .delete (<-rc P w) (<-h 0) (<-h 1)
    |_=>none
   |.min=>return .mJ false (<-sq P nt c.args)
   |.max=>return .mJ true (<-sq P nt c.args)
   |_=>none
  |_=>none
 |_=>none
def bJ.gN:bJ->Bool
 |.store .. |.jI .. |.si _|.j6 _|.lZ _|.append .. |.copy .. |.ye .. |.delete .. |.call .. |.l6=>true
 |_=>false
def bJ.kQ:bJ->Bool
 |.box .. |.alloc .. |.buildSlice .. |.kw|.mH .. |.pH _=>true
 |_=>false
def bJ.iV:bJ->Bool
 |.be _|.eF .. |.lookup .. |.sj _|.oJ _|.gW _ _ _ (some _) _ _=>true
 |_=>false
def bJ.plain:bJ->Bool
 |.bg _|.pick .. |.build .. |.nilCheck _|.arith .. |.shift .. |.kr .. |.eq .. |.unary .. |.ku .. |.mG .. |.lf .. |.iU .. |.part .. |.qS .. |.dI ..
 |.nH .. |.typeAssert .. |.extract .. |.mI _|.jd _|.cap _|.mJ .. |.gW _ _ _ none _ _=>true
 |_=>false
def aJ.ch:aJ->List ah
 |.t p=>[p]
 |.c _=>[]
def AI:Option aJ->List ah
 |some x=>x.ch
 |none=>[]
def bJ.ch:bJ->List ah
 |.bg x|.box _ x|.be x|.eF _ x|.nilCheck x|.unary _ x|.ku _ x|.oJ x|.mG _ x|.iU _ x|.part _ _ _ x|.pH x|.si x|.lZ x|.j6 x|.qT x
 |.typeAssert _ _ _ x|.extract x _|.mI x|.jd x|.sj x|.cap x|.ye _ x=>x.ch
 |.pick c a b=>c.ch++(a.ch++b.ch)
 |.alloc .. |.kw|.l6=>[]
 |.build _ d|.buildSlice _ _ _ d=>d.flatMap λp=>p.2.2.ch
 |.store _ a x=>a.ch++x.ch
 |.arith _ _ x y|.shift _ x y|.kr _ x y|.eq _ _ x y|.qS _ _ x y|.dI _ x y|.nH x y|.lookup _ _ _ x y|.append _ _ _ _ _ x y|.copy _ x y|.delete _ x y|.mH _ _ _ _ x y=>x.ch++y.ch
 |.lf _ a b=>a.flatMap aJ.ch++b.flatMap aJ.ch
 |.gW _ _ x a b c=>x.ch++(AI a++(AI b++AI c))
 |.jI _ m k v=>m.ch++(k.ch++v.ch)
 |.mJ _ l=>l.flatMap aJ.ch
 |.call f l=>f.ch++l.flatMap aJ.ch
def bD.ka(x:bD):List ah:=(match x.guard with|some (g,_)=>[g]|none=>[])++x.op.ch
def vY:Op->Bool
 |.call c=>match c.callee with
  |.value _=>true
  |_=>false
 |_=>false
def bJ.yt:bJ->Bool
 |.call .. =>true
 |_=>false
def HO(o:Oper):Option (Option ah):=
 match o.dst with
 |some d=>if d<nt then some (some (ah.cG d))else none
 |none=>some none
def HP(aB:Array Oper)(o:Oper):Option (Option (ah×Bool)):=
 match o.guard with
 |none=>some none
 |some (j,a)=>match(aB[j]?).bind (·.dst)with
  |some d=>if d<nt then some (some (ah.cG d,a))else none
  |none=>none
def oT(aB:Array Oper)(o:Oper):Option bD:=
 let oU:=(bL P nt o).getD .l6
 let op:=if oU.yt&&!vY o.op then .l6 else oU
 match HO nt o,HP nt aB o with
 |some dst,some guard=>some {dst,op,guard,iu:=[],re:=[]}
 |_,_=>none
def order(l:List bD)(b:Array Nat):(fuel:Nat)->(done:Nat)->List Nat->List Nat
 |0,_,a=>a.reverse
 |f+1,done,a=>
  let l8(i:Nat):Bool:=!done.testBit i&&((b.getD i 0)&&&done==b.getD i 0)
  let gN(i:Nat):Bool:=match l[i]? with|some o=>o.op.gN|none=>true
  let c:=(ah7 l.length).filter l8
  match(c.find? λi=>!gN i)<|>c.head? with
  |some i=>order l b f (done|||2^i) (i::a)
  |none=>a.reverse
def yu(l:List bD)(a:Array Nat)(seen:List Nat)(i:Nat):List ah:=
 seen.filterMap λj=>match l[j]? with
  |some r=>if r.op.kQ&&!(a.getD i 0).testBit j then r.dst else none
  |none=>none
def iV(l:List bD)(a:Array Nat)(seen:List Nat)(i:Nat):List gX:=
 seen.filterMap λj=>match l[j]? with
  |some r=>if r.op.iV&&!(a.getD i 0).testBit j then r.dst.map λd=>⟨d,r.op,r.guard⟩else none
  |none=>none
def DI(l:List bD)(a:Array Nat)(seen:List Nat)(i:Nat)(o:bD):bD:=
 {o with iu:=if o.op.gN||o.op.iV then yu l a seen i else[],re:=if o.op.gN then iV l a seen i else[]}
def oV(l:List bD)(a:Array Nat)(seen:List Nat):List Nat->List bD
 |[]=>[]
 |i::b=>
  match l[i]? with
  |some o=>DI l a seen i o::oV l a (i::seen) b
  |none=>[]
def rf(l:List bD)(a:Array Nat)(i j:Nat):Bool:=
 match l[i]?,l[j]? with
 |some x,some y=>
  let b:=(a.getD j 0).testBit i
  i !=j&&!(a.getD i 0).testBit j&&
  (match x.dst with
   |some d=>(match y.dst with|some e=>d !=e|none=>true)&&(b||!y.ka.contains d)
   |none=>true)&&
  (match y.dst with
   |some d=>!x.ka.contains d||(b&&!x.op.iV)
   |none=>true)&&
  (!x.op.gN||(b&&(a.getD i 0&&&a.getD j 0)==a.getD i 0))
 |_,_=>false
def rh(x:bD):Bool:=
 x.op.gN||x.op.plain||(match x.dst with
  |some d=>x.op.kQ||(x.op.iV&&!x.ka.contains d)
  |none=>false)
def vZ(l:List bD)(b:Array Nat):List Nat->Bool
 |[]=>true
 |i::a=>(match l[i]? with|some x=>rh x|none=>false)&&a.all (rf l b i)&&vZ l b a
def yw(aB:Array Oper):Bool:=aB.toList.zipIdx.all λp=>p.1.after.all λe=>!Region.binds .any e||decide (e.on<p.2)
def uc(aB:Array Oper)(b:Bool):Option (List bD):=do
 let l<-aB.toList.mapM (oT P nt aB)
 if !b then return l
 let a:=Region.before aB
 let ap:=order l a aB.size 0 []
 if(P.follows .mixedOrders||!Region.departs aB)&&yw aB&&(ah7 aB.size).all ap.contains&&vZ l a ap then return oV l a [] ap else none
class Ov where
 dL:bm->Option Nat
 code:Nat->bm
 PQ:∀b t,dL b=some t->b=code t
variable[Ov]
def dH:Code->Option bm
 |.skip|.label _=>some .skip
 |.region _ aB d=>(uc P nt aB d).map .region
 |.seq a b=>match dH a,dH b with
  |some a,some b=>some (match Ov.dL (.seq a b)with
   |some t=>.dL t
   |none=>.seq a b)
  |_,_=>none
 |.cond c a b=>match ff P nt c,dH a,dH b with
  |some c,some a,some b=>some (.cond c a b)
  |_,_,_=>none
 |.block id b=>(dH b).map (.block id)
 |.loop b=>(dH b).map .loop
 |.rangeFunc f e as bd=>match ff P nt f,dH as,dH bd with
  |some f,some as,some bd=>if e.toList.all (·<nt)then some (.rangeFunc f (e.toList.map ah.cG) as bd)else none
  |_,_,_=>none
 |.exit id=>some (.exit id)
 |.ret=>some .ret
 |.scope b=>dH b
 |.goto _|.refuse _=>none
def wc:ResultVar->Option gE
 |.tmp t=>if t<nt then some (.tmp (ah.cG t))else none
 |.cell a t=>match mN P t,eW P t with
  |some g,some s=>if a<nt then some (.cell (ah.cG a) g (if g then s else 1))else none
  |_,_=>none
def pP(f:Func):Option aV:=do
 let b<-f.body
 let b<-dH P f.ntmps b
 let r<-f.results.toList.mapM (wc P f.ntmps)
 return .code f.ntmps r b
end
end Go.al
namespace Go.al
structure aM where
 f:ah->Option (Nat×Nat)
 k:Nat->Nat×Nat
instance:CoeFun aM λ_=>ah->Option (Nat×Nat):=⟨aM.f⟩
def bZ(b a:aM):Prop:=∀i x,b i=some x->a i=some x/\a.k x.1=b.k x.1
theorem bZ.refl(a:aM):bZ a a:=λ_ _ b=>⟨b,rfl⟩
theorem bZ.trans{a b c:aM}(d:bZ a b)(k:bZ b c):bZ a c:=λi x e=>⟨(k i x (d i x e).1).1,(k i x (d i x e).1).2.trans (d i x e).2⟩
mutual
def VR(e:aM):AV->Value->Prop
 |.tuple l,.tuple cs=>aZ e l cs.toList
 |.agg l,.agg cs=>aZ e l cs.toList
 |.bool a,.bool b=>a=b
 |.int k n,.int j m=>k=kc j/\n=m
 |.str s,.string t=>t.data.toList.map ajs=s
 |.aD i o,.pointer (some a)=>∃b x,e i=some (b,x)/\a=⟨b,x+o,none⟩
 |.j5,.pointer none=>True
 |.slice i o len cap ex,.slice (some a) n c=>n=len/\len<=cap/\cap<=c/\(ex=true->c=cap)/\∃b x,e i=some (b,x)/\(c≠0->a=⟨b,x+o,none⟩)/\(ex=false->x+o+c*(e.k b).2<=(e.k b).1)
 |.bh,.slice none 0 0=>True
 |.map i,.map (some b)=>e i=some (b,0)
 |.cL,.map none=>True
 |.func f a b,.func (.func g) c d=>f=g/\aZ e a c.toList/\aZ e b d.toList
 |.yield i,.func (.yield b) c d=>e i=some (b,0)/\c= #[]/\d= #[]
 |.nilFunc,.nilFunc=>True
 |.iface t v,.iface u c=>t=u/\VR e v c
 |.nilIface,.nilIface=>True
 |.bM,_=>True
 |_,_=>False
def aZ(a:aM):List AV->List Value->Prop
 |[],[]=>True
 |v::l,c::m=>VR a v c/\aZ a l m
 |_,_=>False
end
mutual
theorem VR.mono{m j:aM}(s:bZ m j):∀(v:AV)(c:Value),VR m v c->VR j v c
 |.tuple l,.tuple cs,k=>by exact aZ.mono s l cs.toList k
 |.agg l,.agg cs,k=>by exact aZ.mono s l cs.toList k
 |.bool _,.bool _,k=>by simpa only[VR]using k
 |.int _ _,.int _ _,k=>by simpa only[VR]using k
 |.str _,.string _,k=>by simpa only[VR]using k
 |.aD i o,.pointer (some a),k=>by
  obtain⟨b,x,e,rfl⟩:=k;exact⟨b,x,(s _ _ e).1,rfl⟩
 |.j5,.pointer none,_=>by simp only[VR]
 |.slice i o len cap ex,.slice (some a) n c,k=>by
  obtain⟨h1,h2,h3,p,b,x,e,q,r⟩:=k;exact⟨h1,h2,h3,p,b,x,(s _ _ e).1,q,by rw[show j.k b=m.k b from(s _ _ e).2];exact r⟩
 |.bh,.slice none 0 0,_=>by simp only[VR]
 |.map i,.map (some b),k=>by simp only[VR]at k⊢;exact(s _ _ k).1
 |.cL,.map none,_=>by simp only[VR]
 |.func f a b,.func (.func g) c d,k=>by
  simp only[VR]at k⊢;exact⟨k.1,aZ.mono s a c.toList k.2.1,aZ.mono s b d.toList k.2.2⟩
 |.yield i,.func (.yield b) c d,k=>by simp only[VR]at k⊢;exact⟨(s _ _ k.1).1,k.2⟩
 |.nilFunc,.nilFunc,_=>by simp only[VR]
 |.iface t v,.iface u c,k=>by simp only[VR]at k⊢;exact⟨k.1,VR.mono s v c k.2⟩
 |.nilIface,.nilIface,_=>by simp only[VR]
 |.bM,_,_=>by simp only[VR]
theorem aZ.mono{b a:aM}(d:bZ b a):∀(l:List AV)(m:List Value),aZ b l m->aZ a l m
 |[],[],_=>by simp only[aZ]
 |v::l,c::m,k=>by simp only[aZ]at k⊢;exact⟨VR.mono d v c k.1,aZ.mono d l m k.2⟩
end
theorem aZ.length{a:aM}:∀{l:List AV}{m:List Value},aZ a l m->l.length=m.length|[],[],_=>rfl|_::_,_::_,k=>by simp[aZ.length k.2]|[],_::_,k=>by trivial|_::_,[],k=>by trivial
theorem aZ.append{a:aM}:∀{l:List AV}{m:List Value}{b:List AV}{c:List Value},aZ a l m->aZ a b c->aZ a (l++b) (m++c)|[],[],_,_,_,d=>by grind|_::_,_::_,_,_,k,d=>by exact⟨k.1,aZ.append k.2 d⟩|[],_::_,_,_,k,_=>by trivial|_::_,[],_,_,k,_=>by trivial
theorem aZ.get{b:aM}:∀{l:List AV}{m:List Value},aZ b l m->∀(i:Nat)(v:AV),l[i]?=some v->∃c,m[i]?=some c/\VR b v c|[],[],_,i,v,d=>by grind|a::l,c::m,k,0,v,d=>by simp_all[aZ]|a::l,c::m,k,i+1,v,d=>by simpa using aZ.get k.2 i v d|[],_::_,k,_,_,_=>by grind|_::_,[],k,_,_,_=>by trivial
theorem aZ.DJ{b:aM}:∀{l:List AV}{m:List Value},l.length=m.length->(∀(i:Nat)(v:AV)(c:Value),l[i]?=some v->m[i]?=some c->VR b v c)->aZ b l m|[],[],_,_=>by trivial|a::l,c::m,d,k=>by exact⟨k 0 a c (by rfl) (by rfl),aZ.DJ (by grind) λi v c h1 h2=>k (i+1) v c (by grind) (by grind)⟩|[],_::_,d,_=>by grind|_::_,[],d,_=>by grind
theorem aZ.take{a:aM}:∀{l:List AV}{m:List Value}(n:Nat),aZ a l m->aZ a (l.take n) (m.take n)|[],[],n,_=>by grind|_::_,_::_,0,_=>by trivial|_::_,_::_,n+1,k=>by exact⟨k.1,aZ.take n k.2⟩|[],_::_,_,k=>by trivial|_::_,[],_,k=>by trivial
theorem aZ.drop{a:aM}:∀{l:List AV}{m:List Value}(n:Nat),aZ a l m->aZ a (l.drop n) (m.drop n)|[],[],n,_=>by grind|_::_,_::_,0,k=>by grind|_::_,_::_,n+1,k=>by exact aZ.drop n k.2|[],_::_,_,k=>by trivial|_::_,[],_,k=>by trivial
theorem VR.cells{a:aM}{v:AV}{c:Value}(b:VR a v c)(hd:v.br=true):aZ a v.cells c.cells.toList:=by cases v<;>cases c<;>first|(simp[VR]at b;done)|(simp[AV.br]at hd;done)|(simp only[AV.cells,Value.cells,aZ,VR]at b⊢;first|exact b|exact⟨b,trivial⟩)
theorem VR.cW{a:aM}{v:AV}{c:Value}(b:VR a v c)(k:v.cW=true):(∀l,c≠.agg l)/\∀l,c≠.tuple l:=by cases v<;>cases c<;>simp_all[VR,AV.cW]
namespace az
variable{h:Type}(d:h)
theorem aF(x:h):∀(p q:ah)(t:az h),(t.set d q x).get d p=if p=q then x else t.get d p|.xH,.xH,t=>by rfl|.xH,.xO q,t=>by rfl|.xH,.xI q,t=>by rfl|.xO p,.xH,t=>by rfl|.xI p,.xH,t=>by rfl|.xO p,.xO q,t=>by simp[set,get,left,aF x p q]|.xI p,.xI q,t=>by simp[set,get,right,aF x p q]|.xO p,.xI q,t=>by rfl|.xI p,.xO q,t=>by rfl
theorem afX(n:Nat):(az.aR:az h).bp d n=d:=by rfl
theorem HQ(t:az h):t.bp d 0=t.val d:=by cases t<;>rfl
theorem yz(t:az h)(m:Nat)(a:m % 2=0):t.bp d (m+1)=t.left.bp d (m/2):=by cases t with|aR=>rfl|node l v r=>simp[a,bp,left]
theorem yA(t:az h)(m:Nat)(a:¬m % 2=0):t.bp d (m+1)=t.right.bp d (m/2):=by cases t with|aR=>rfl|node l v r=>simp[a,bp,right]
theorem DK(x:h):∀(f n:Nat)(t:az h)(j:Nat),n<=f->(t.lI d f n x).bp d j=if j=n then x else t.bp d j
 |f,0,t,j,_=>by
  rw[show t.lI d f 0 x=.node t.left x t.right by cases f<;>rfl];cases j with
  |zero=>simp[bp]
  |succ m=>
   simp only[bp,Nat.succ_ne_zero,bF];split;·rename_i c;rw[yz d t m c]
   rename_i c;rw[yA d t m c]
 |0,n+1,_,_,c=>by omega
 |f+1,n+1,t,j,c=>by
  by_cases b:n % 2=0
  .rw[show t.lI d (f+1) (n+1) x=.node (lI d f (n/2) x t.left) (t.val d) t.right by simp[lI,b]];cases j with
   |zero=>simp[bp,HQ]
   |succ m=>
    by_cases a:m % 2=0
    .rw[yz d _ m a,left,DK x f (n/2) t.left (m/2) aa,yz d t m a];by_cases e:m=n;·simp[e]
     rw[an aa,an aa]
    rw[yA d _ m a,right,yA d t m a,an aa]
  rw[show t.lI d (f+1) (n+1) x=.node t.left (t.val d) (lI d f (n/2) x t.right)by simp[lI,b]];cases j with
  |zero=>simp[bp,HQ]
  |succ m=>
   by_cases a:m % 2=0;·rw[yz d _ m a,left,yz d t m a,an aa]
   rw[yA d _ m a,right,DK x f (n/2) t.right (m/2) aa,yA d t m a];by_cases e:m=n;·simp[e]
   rw[an aa,an aa]
end az
def ah.am:ah->Nat
 |.xH=>1
 |.xO p=>2*p.am
 |.xI p=>2*p.am+1
theorem ah.ri:∀p:ah,0<p.am|.xH=>by trivial|.xO p=>by have:=p.ri;simp_all[am]|.xI p=>by simp[am]
theorem ah.rj:∀{p q:ah},p.am=q.am->p=q|.xH,.xH,_=>rfl|.xH,.xO q,a=>by have:=q.ri;simp only[am]at a;omega|.xH,.xI q,a=>by have:=q.ri;simp only[am]at a;omega|.xO p,.xH,a=>by have:=p.ri;simp only[am]at a;omega|.xI p,.xH,a=>by have:=p.ri;simp only[am]at a;omega|.xO p,.xO q,a=>by simp only[am]at a;rw[ah.rj (p:=p) (q:=q) aa]|.xI p,.xI q,a=>by simp only[am]at a;rw[ah.rj (p:=p) (q:=q) aa]|.xO p,.xI q,a=>by simp only[am]at a;omega|.xI p,.xO q,a=>by simp only[am]at a;omega
theorem ah.eX:∀p:ah,p.succ.am=p.am+1|.xH=>rfl|.xO p=>rfl|.xI p=>by simp only[succ,am,ah.eX p];rfl
theorem ah.kA:∀t,(ah.cG t).am=t+1|0=>rfl|t+1=>by rw[cG,eX,kA t]
theorem ah.bE{a b:Nat}(c:ah.cG a=ah.cG b):a=b:=by have:=congrArg ah.am c;grind[kA]
theorem ah.fg:∀{p q:ah},ah.beq p q=true↔p=q|.xH,.xH=>by trivial|.xH,.xO q=>by simp[beq]|.xH,.xI q=>by simp[beq]|.xO p,.xH=>by simp[beq]|.xI p,.xH=>by simp[beq]|.xO p,.xO q=>by simp[beq,ah.fg (p:=p) (q:=q)]|.xI p,.xI q=>by simp[beq,ah.fg (p:=p) (q:=q)]|.xO p,.xI q=>by simp[beq]|.xI p,.xO q=>by simp[beq]
def gO(b:aM)(a:Nat)(ac:az AV)(tmps:Array Value):Prop:=
 tmps.size=a/\∀t,t<a->VR b (ac.get .ajS (ah.cG t)) (tmps.getD t undef)
theorem gO.mono{b a:aM}{nt:Nat}{ac:az AV}{tmps:Array Value}(d:bZ b a)(k:gO b nt ac tmps):gO a nt ac tmps:=⟨k.1,λt c=>VR.mono d _ _ (k.2 t c)⟩
theorem gO.set{a:aM}{b:Nat}{ac:az AV}{tmps:Array Value}{v:AV}{c:Value}{d:Nat}(k:gO a b ac tmps)(i:VR a v c):gO a b (ac.set .ajS (ah.cG d) v) (tmps.setIfInBounds d c):=by
 refine⟨by simp[k.1],λt f=>?_⟩;rw[az.aF];by_cases e:t=d
 .subst e;have:t<tmps.size:=by rw[k.1];exact f
  simp_all
 have g:ah.cG t≠ah.cG d:=λj=>e (ah.bE j);rw[an g];have:=k.2 t f;simp_all[undef,Array.getD,ajJ]
theorem VR.ajS(a:aM):VR a AV.ajS Go.undef:=by trivial
end Go.al
namespace Go.al
section
variable[Ov]
section
def bP.aK:bP->List ah
 |.cells _ _ _ _ aK _=>aK
 |_=>[]
def bP.jL:bP->Bool
 |.cells _ _ _ rw _ _=>!rw
 |_=>false
def cr(a:aM):List aW->List MapEntry->Prop
 |[],[]=>True
 |e::l,c::m=>VR a e.key c.key/\VR a e.val c.val/\e.born=c.born/\cr a l m
 |_,_=>False
def cX(a:aM):List aW->List MapEntry->Prop
 |[],[]=>True
 |e::l,c::m=>VR a e.key c.key/\VR a e.val c.val/\cX a l m
 |_,_=>False
def nK:pI->LoopState->Prop
 |.ready,.ready|.busy,.busy|.done,.done|.exhausted,.exhausted=>True
 |_,_=>False
def nM:bY->Option Code->Prop
 |.none,none=>True
 |.exit i,some (.exit j)=>i=j
 |.ret,some .ret=>True
 |_,_=>False
def mO(a:aM):Option ah->Option Nat->Prop
 |none,none=>True
 |some i,some b=>a i=some (b,0)
 |_,_=>False
def bP.len:bP->Nat
 |.cells _ n _ _ _ _=>n
 |_=>0
variable(P:Program)
def kB(bB:Array MapEntry)(k:Nat):Prop:=(bB.toList.map (·.born)).Nodup/\∀c∈bB.toList,c.born<k
def OR(g:aM):bP->Nat->Obj->Prop
 |.cells c n e rw _ fz,off,.cells cs u fr=>u=e/\off+n<=cs.size/\(∀i,i<n->∃x,cs[off+i]?=some x/\VR g (c.bp .ajS i) x)/\
   (rw=true->∀i,off+fz<=i->i<cs.size->¬(fr.1<=i/\i<fr.2))
 |.map es a,off,.map bB k=>off=0/\k=a/\kB bB k/\cr g es bB.toList
 |.cS es,off,.map bB k=>off=0/\kB bB k/\∃l:List MapEntry,l.Perm bB.toList/\cX g es l
 |.ky s j h,off,.stringIter bs p=>off=0/\p=h/\bs.data.toList.map ajs=s/\j=s.drop h
 |.loop st bS _ ac v as bd d,off,.loop r=>off=0/\nK st r.state/\nM bS r.pending/\g d=some (r.defers,0)/\
   r.params.toList.map ah.cG=v/\∃q,gO g q ac r.tmps/\(∀p∈r.params.toList,p<q)/\dH P q r.assign=some as/\dH P q r.body=some bd
 |.deferred b,off,.deferred cs=>off=0/\(b=false->cs=some [])
 |.mapIter m f seen o,off,.mapIter w s y t=>off=0/\mO g m w/\s=f/\y.toList=seen/\t=o
 |_,_,_=>False
theorem cr.mono{b a:aM}(h:bZ b a):∀{l:List aW}{m:List MapEntry},cr b l m->cr a l m|[],[],_=>by trivial|_::_,_::_,k=>by exact⟨VR.mono h _ _ k.1,VR.mono h _ _ k.2.1,k.2.2.1,cr.mono h k.2.2.2⟩|[],_::_,k=>by trivial|_::_,[],k=>by trivial
theorem kB.empty:kB #[] 0:=⟨aC,λc h=>by grind⟩
theorem kB.modify{bB:Array MapEntry}{k:Nat}(h:kB bB k)(i:Nat){f:MapEntry->MapEntry}(g:∀e,(f e).born=e.born):kB (bB.modify i f) k:=by
 have:∀(l:List MapEntry)(i:Nat),(l.modify i f).map (·.born)=l.map (·.born):=by intro l;induction l with|nil=>intro i;cases i<;>rfl|cons a l j=>intro i;cases i with|zero=>simp[g]|succ i=>simp[j]
 refine⟨by rw[Array.toList_modify,this];exact h.1,λc m=>?_⟩;have b:c.born∈(bB.toList.modify i f).map (·.born):=aio (by rw[<-Array.toList_modify];exact m);rw[this,aia]at b;have⟨d,hd,e⟩:=b;rw[<-e];exact h.2 d hd
theorem kB.push{bB:Array MapEntry}{k:Nat}(h:kB bB k){e:MapEntry}(he:e.born=k):kB (bB.push e) (k+1):=by
 refine⟨?_,λc f=>?_⟩;·rw[Array.toList_push,ail,aiH];refine⟨h.1,aC,λa g b hb=>?_⟩;simp only[ah2,ajh,abP]at hb;rw[aia]at g;obtain⟨d,hd,rfl⟩:=g;have:=h.2 d hd;omega
 rw[Array.toList_push,adX]at f;rcases f with f|f;·have:=h.2 c f;omega
 grind
theorem kB.erase{bB:Array MapEntry}{k:Nat}(h:kB bB k)(i:Nat):kB (bB.eraseIdxIfInBounds i) k:=by
 refine⟨?_,λc a=>?_⟩;·rw[Array.toList_eraseIdxIfInBounds];exact h.1.sublist ((List.eraseIdx_sublist _ _).map _)
 rw[Array.toList_eraseIdxIfInBounds]at a;exact h.2 c ((List.eraseIdx_sublist _ _).subset a)
theorem cX.mono{b a:aM}(h:bZ b a):∀{l:List aW}{m:List MapEntry},cX b l m->cX a l m|[],[],_=>by trivial|_::_,_::_,k=>by exact⟨VR.mono h _ _ k.1,VR.mono h _ _ k.2.1,cX.mono h k.2.2⟩|[],_::_,k=>by trivial|_::_,[],k=>by trivial
variable{P}
theorem OR.mono{c a:aM}(h:bZ c a){o:bP}{off:Nat}{b:Obj}(k:OR P c o off b):OR P a o off b:=by
 cases o<;>cases b<;>simp only[OR]at k⊢;·grind[VR.mono]
 .grind[cr.mono]
 .grind[cX.mono]
 .omega
 .have⟨h1,h2,h3,d,e,nt,f,g⟩:=k;exact⟨h1,h2,h3,(h _ _ d).1,e,nt,gO.mono h f,g⟩
 .omega
 refine⟨k.1,?_,k.2.2⟩;have:=k.2.1;rename_i m _ _ _ i _ _ _;cases m<;>cases i<;>simp only[mO]at this⊢;exact(h _ _ this).1
structure b8 where
 w:Nat->Prop
 r:Nat->Prop
 un:ah->Prop
 dM:ah->Prop
structure dj(Wr:b8)(w w':World):Prop where
 os:w'.os=w.os
 tape:w'.tape=w.tape
 output:w'.output=w.output
 size:w.heap.size<=w'.heap.size
 block:∀k,k<w.heap.size->¬Wr.w k->w'.heap[k]?=w.heap[k]?
theorem dj.refl(a:b8)(w:World):dj a w w:=⟨rfl,rfl,rfl,afM _,λ_ _ _=>rfl⟩
theorem dj.trans{d:b8}{a b c:World}(h:dj d a b)(k:dj d b c):dj d a c:=⟨k.os.trans h.os,k.tape.trans h.tape,k.output.trans h.output,aji h.size k.size,λi hi e=>(k.block i (aim hi h.size) e).trans (h.block i hi e)⟩
theorem dj.drew{a:b8}{w w':World}(h:dj a w w'):dj a w {w' with drawn:=w'.drawn+1}:=⟨h.os,h.tape,h.output,h.size,h.block⟩
variable(P)
def eP(q:Nat×Nat):bP->Obj->Prop
 |.cells _ _ e _ _ _,.cells cs _ _=>q=(cs.size,(eW P e).getD 0)
 |_,_=>True
structure bo(Wr:b8)(ρ:aM)(H:ai)(w:World):Prop where
 dp:∀i,H.get i≠.none->∃b x ob,ρ i=some (b,x)/\w.heap[b]?=some ob/\OR P ρ (H.get i) x ob
 ju:∀i j b x y,i≠j->H.get i≠.none->H.get j≠.none->ρ i=some (b,x)->ρ j=some (b,y)->(i∈(H.get j).aK/\x+(H.get i).len<=y+(H.get j).len)\/(j∈(H.get i).aK/\y+(H.get j).len<=x+(H.get i).len)
 aK:∀i j,i∈(H.get j).aK->i.am<H.next.am/\(H.get i≠.none->(H.get i).jL=true)
 wr:∀i b x,H.get i≠.none->(H.get i).jL=false->ρ i=some (b,x)->Wr.w b
 dc:∀i,H.next.am<=i.am->H.get i=.none/\ρ i=none
 new:∀k,w.heap.size<=k->Wr.w k/\Wr.r k
 kC:∀g,g<P.globals.size->ρ (ah.cG g)=some (g,0)
 iJ:∀i b x ob,H.get i≠.none->ρ i=some (b,x)->w.heap[b]?=some ob->eP P (ρ.k b) (H.get i) ob
 d8:∀i b x,ρ i=some (b,x)->b<w.heap.size
 rd:∀i b x,H.get i≠.none->ρ i=some (b,x)->Wr.r b
 un:∀i,Wr.un i->H.get i=.none/\i.am<H.next.am/\∀j,i∉(H.get j).aK
 dM:∀i,Wr.dM i->Wr.un i/\ρ i=none
variable{P}
theorem bo.drew{a:b8}{b:aM}{H:ai}{w:World}(h:bo P a b H w):bo P a b H {w with drawn:=w.drawn+1}:=⟨h.dp,h.ju,h.aK,h.wr,h.dc,h.new,h.kC,h.iJ,h.d8,h.rd,h.un,h.dM⟩
theorem ai.aF(H:ai)(i j:ah)(o:bP):(H.set i o).get j=if j=i then o else H.get j:=az.aF _ _ _ _ _
theorem ai.cO(H:ai)(j:ah)(o:bP):(H.new o).get j=if j=H.next then o else H.get j:=az.aF _ _ _ _ _
theorem ai.eH(H:ai)(i:ah)(o:bP):(H.set i o).next=H.next:=rfl
theorem ai.ud:∀(l:List ah)(H:ai)(j:ah),(H.eG l).get j=if j∈l then .none else H.get j|[],H,j=>by simp[ai.eG]|i::l,H,j=>by rw[ai.eG,ai.ud l,ai.aF];by_cases h:j∈l<;>by_cases e:j=i<;>simp[h,e]
theorem ai.iK:∀(l:List ah)(H:ai),(H.eG l).next=H.next|[],_=>rfl|i::l,H=>by rw[ai.eG,ai.iK l];rfl
def aM.add(a:aM)(i:ah)(b x:Nat)(q:Nat×Nat):aM:=⟨λj=>if j=i then some (b,x)else a j,λc=>if c=b then q else a.k c⟩
theorem aM.eA(a:aM)(i:ah)(b x:Nat)(q:Nat×Nat):a.add i b x q i=some (b,x):=by simp[aM.add]
theorem aM.sr(a:aM)(i:ah)(b x:Nat)(q:Nat×Nat):(a.add i b x q).k b=q:=by simp[aM.add]
theorem aM.pQ{a:aM}{i:ah}(b x:Nat)(q:Nat×Nat)(h:a i=none)(hb:∀j c y,a j=some (c,y)->c=b->a.k b=q):bZ a (a.add i b x q):=by
 intro j y e;refine⟨?_,?_⟩;·show(if j=i then some (b,x)else a j)=some y;grind
 show(if y.1=b then q else a.k y.1)=a.k y.1;grind
theorem bo.alloc{v:b8}{n:aM}{H:ai}{w:World}(h:bo P v n H w){o:bP}{ob:Obj}(q:Nat×Nat)(G:eP P q o ob)(L:o≠.none)(D:o.aK=[])(z:OR P (n.add H.next w.heap.size 0 q) o 0 ob):bZ n (n.add H.next w.heap.size 0 q)/\bo P v (n.add H.next w.heap.size 0 q) (H.new o) {w with heap:=w.heap.push ob}/\dj v w {w with heap:=w.heap.push ob}:=by
 have I:=h.dc H.next (afM _);have d:bZ n (n.add H.next w.heap.size 0 q):=aM.pQ w.heap.size 0 q I.2 (λj c y e M=>by have:=h.d8 j c y e;omega);have r:∀i,H.get i≠.none->∃b x ob,n i=some (b,x)/\b<w.heap.size/\w.heap[b]?=some ob/\OR P n (H.get i) x ob:=by
  intro i hi;have⟨b,x,ob,e,hb,z⟩:=h.dp i hi;refine⟨b,x,ob,e,?_,hb,z⟩;rcases aiU b w.heap.size with hl|hl;·exact hl
  simp[ai3 hl]at hb
 refine⟨d,⟨?_,?_,?_,?_,?_,?_,?_,?_,?_,?_,?_,?_⟩,⟨rfl,rfl,rfl,aC,?_⟩⟩
 .intro i hi;rw[ai.cO]at hi⊢;by_cases e:i=H.next;·subst e;rw[aG rfl];exact⟨w.heap.size,0,ob,aM.eA ..,aC,z⟩
  rw[an e]at hi⊢;have⟨b,x,p,s,hl,hb,B⟩:=r i hi;refine⟨b,x,p,(d _ _ s).1,?_,OR.mono d B⟩;show(w.heap.push ob)[b]?=_;rw[ajl,an aa];exact hb
 .intro i j b x y t hi hj l m;rw[ai.cO]at hi hj;rw[ai.cO,ai.cO];by_cases e1:i=H.next;·subst e1;have e2:j≠H.next:=λh=>t h.symm;rw[an e2]at hj;have⟨J,K,_,s,hl,_⟩:=r j hj;rw[aM.eA]at l;have:=(d _ _ s).1;rw[this]at m;injection l with l;injection m with m;injection l with l _;injection m with m _;omega
  by_cases e2:j=H.next;·subst e2;rw[an e1]at hi;have⟨J,K,_,s,hl,_⟩:=r i hi;rw[aM.eA]at m;have:=(d _ _ s).1;rw[this]at l;injection l with l;injection m with m;injection l with l _;injection m with m _;omega
  rw[an e1]at hi⊢;rw[an e2]at hj⊢;simp only[aM.add,an e1,an e2]at l m;exact h.ju i j b x y t hi hj l m
 .intro i j hj;rw[ai.cO]at hj;by_cases e2:j=H.next;·rw[aG e2,D]at hj;cases hj
  rw[an e2]at hj;have⟨h1,h2⟩:=h.aK i j hj;have e1:i≠H.next:=λe=>by subst e;omega
  rw[ai.cO,an e1];refine⟨?_,h2⟩;show i.am<H.next.succ.am;rw[ah.eX];omega
 .intro i b x hi A e;rw[ai.cO]at hi A;by_cases e1:i=H.next;·subst e1;rw[aM.eA]at e;injection e with e;injection e with e _;exact(h.new b aa).1
  rw[an e1]at hi A;simp only[aM.add,an e1]at e;exact h.wr i b x hi A e
 .intro i hi;have C:H.next.succ.am<=i.am:=hi;rw[ah.eX]at C;have u:i≠H.next:=λe=>by subst e;omega
  rw[ai.cO,an u];have⟨a,b⟩:=h.dc i aa;exact⟨a,by simp[aM.add,u,b]⟩
 .intro k E;exact h.new k (by simp at E;omega)
 .intro g hg;exact(d _ _ (h.kC g hg)).1
 .intro i b x p hi e hb;rw[ai.cO]at hi⊢;by_cases e1:i=H.next;·subst e1;rw[aM.eA]at e;injection e with e;injection e with e _;subst e;rw[aG rfl,aM.sr];have f:(w.heap.push ob)[w.heap.size]?=some p:=hb;rw[ajl,aG rfl]at f;injection f with f;rw[<-f];exact G
  rw[an e1]at hi⊢;simp only[aM.add,an e1]at e;have F:=h.d8 i b x e;have f:(w.heap.push ob)[b]?=some p:=hb;rw[ajl,an aa]at f;rw[show(n.add H.next w.heap.size 0 q).k b=n.k b from(d _ _ e).2];exact h.iJ i b x p hi e f
 .intro i b x e;show b<(w.heap.push ob).size;rw[Array.size_push];by_cases e1:i=H.next;·subst e1;rw[aM.eA]at e;injection e with e;injection e with e _;omega
  simp only[aM.add,an e1]at e;have:=h.d8 i b x e;omega
 .intro i b x hi e;rw[ai.cO]at hi;by_cases e1:i=H.next;·subst e1;rw[aM.eA]at e;injection e with e;injection e with e _;exact(h.new b aa).2
  rw[an e1]at hi;simp only[aM.add,an e1]at e;exact h.rd i b x hi e
 .intro i hi;have⟨h1,h2,h3⟩:=h.un i hi;have e1:i≠H.next:=λe=>by subst e;omega
  refine⟨by rw[ai.cO,an e1];exact h1,?_,λj hj=>?_⟩;·show i.am<H.next.succ.am;rw[ah.eX];omega
  rw[ai.cO]at hj;by_cases e2:j=H.next;·rw[aG e2,D]at hj;cases hj
  rw[an e2]at hj;exact h3 j hj
 .intro i hi;have⟨h1,h2⟩:=h.dM i hi;have e1:i≠H.next:=λe=>by have:=(h.un i h1).2.1;subst e;omega
  exact⟨h1,by simp[aM.add,e1,h2]⟩
 intro k E _;show(w.heap.push ob)[k]?=_;rw[ajl,an aa]
theorem bo.aE{d:b8}{a:aM}{H:ai}{w:World}(h:bo P d a H w){i:ah}(hi:H.get i≠.none):∃b x c,a i=some (b,x)/\b<w.heap.size/\w.heap[b]?=some c/\OR P a (H.get i) x c:=by have⟨b,x,c,e,hb,f⟩:=h.dp i hi;grind
theorem bo.AJ{a:b8}{b:aM}{H:ai}{w:World}(h:bo P a b H w){i:ah}(hi:H.get i≠.none):i.am<H.next.am:=by
 rcases aiU i.am H.next.am with hl|hl;·omega
 exact absurd (h.dc i hl).1 hi
theorem bo.oW{E:b8}{A:aM}{H:ai}{w:World}(h:bo P E A H w){i:ah}{b x:Nat}{o':bP}{ob':Obj}(hi:H.get i≠.none)(q:(H.get i).jL=false)(hb:A i=some (b,x))(O:o'.aK=[])(R:OR P A o' x ob')(S:eP P (A.k b) o' ob'){w':World}(s:w'.heap=w.heap.setIfInBounds b ob')(G:w'.os=w.os)(I:w'.tape=w.tape)(J:w'.output=w.output):bo P E A ((H.eG (H.get i).aK).set i o') w'/\dj E w w':=by
 have⟨W,X,Y,C,hl,T,V⟩:=h.aE hi;rw[hb]at C;injection C with C;injection C with e1 e2;subst e1;have d:∀j,((H.eG (H.get i).aK).set i o').get j=if j=i then o' else if j∈(H.get i).aK then .none else H.get j:=by intro j;rw[ai.aF,ai.ud]
 have a:∀j,j≠i->(if j∈(H.get i).aK then bP.none else H.get j)≠.none->j∉(H.get i).aK/\H.get j≠.none:=by
  intro j _ hj;by_cases m:j∈(H.get i).aK;·rw[aG m]at hj;exact absurd rfl hj
  rw[an m]at hj;exact⟨m,hj⟩
 have r:∀j y c,j≠i->j∉(H.get i).aK->H.get j≠.none->A j=some (c,y)->c≠b:=by
  intro j y c K L hj g p;subst p;rcases h.ju i j c x y (λe=>K e.symm) hi hj hb g with⟨m,_⟩|⟨m,_⟩;·have:=(h.aK i j m).2 hi;rw[q]at this;cases this
  exact L m
 refine⟨⟨?_,?_,?_,?_,?_,?_,?_,?_,?_,?_,?_,?_⟩,⟨G,I,J,by rw[s];simp,?_⟩⟩
 .intro j hj;rw[d]at hj⊢;by_cases e:j=i;·subst e;rw[aG rfl];exact⟨b,x,ob',hb,by rw[s,ais];simp[hl],R⟩
  rw[an e]at hj⊢;have⟨m,f⟩:=a j e hj;rw[an m];have⟨c,y,F,Q,p,M⟩:=h.dp j f;have:=r j y c e m f Q;exact⟨c,y,F,Q,by rw[s,ais,an (λh=>this h.symm)];exact p,M⟩
 .intro j k c y z B hj l g t;rw[d]at hj l;rw[d,d];by_cases e1:j=i;·subst e1;have e2:k≠j:=λh=>B h.symm;rw[an e2]at l;have⟨m,u⟩:=a k e2 l;rw[hb]at g;injection g with g;injection g with g _;exact absurd g.symm (r k z c e2 m u t)
  by_cases e2:k=i;·subst e2;rw[an e1]at hj;have⟨m,f⟩:=a j e1 hj;rw[hb]at t;injection t with t;injection t with t _;exact absurd t.symm (r j y c e1 m f g)
  rw[an e1]at hj⊢;rw[an e2]at l⊢;have⟨o,f⟩:=a j e1 hj;have⟨n,u⟩:=a k e2 l;rw[an o,an n];exact h.ju j k c y z B f u g t
 .intro j k l;rw[d]at l;have v:((H.eG (H.get i).aK).set i o').next=H.next:=by rw[ai.eH,ai.iK]
  rw[v];by_cases e2:k=i;·rw[aG e2,O]at l;cases l
  rw[an e2]at l;by_cases n:k∈(H.get i).aK;·rw[aG n]at l;cases l
  rw[an n]at l;have⟨h1,h2⟩:=h.aK j k l;refine⟨h1,λhj=>?_⟩;rw[d]at hj⊢;by_cases e1:j=i;·subst e1;have:=h2 hi;rw[q]at this;cases this
  rw[an e1]at hj⊢;have⟨o,f⟩:=a j e1 hj;rw[an o];exact h2 f
 .intro j c y hj D g;rw[d]at hj D;by_cases e1:j=i;·subst e1;exact h.wr j c y hi q g
  rw[an e1]at hj D;have⟨o,f⟩:=a j e1 hj;rw[an o]at D;exact h.wr j c y f D g
 .intro j hj;have f:H.next.am<=j.am:=by rw[ai.eH,ai.iK]at hj;exact hj
  have⟨h1,h2⟩:=h.dc j f;refine⟨?_,h2⟩;rw[d];by_cases e1:j=i;·subst e1;exact absurd h1 hi
  rw[an e1];split;·rfl
  exact h1
 .intro k l;exact h.new k (by rw[s]at l;simpa using l)
 .exact h.kC
 .intro j c y F hj g p;rw[d]at hj⊢;by_cases e:j=i;·subst e;rw[aG rfl];rw[hb]at g;injection g with g;injection g with g _;subst g;rw[s,ais]at p;simp only[hl,bi,abv]at p;rw[<-p];exact S
  rw[an e]at hj⊢;have⟨m,f⟩:=a j e hj;rw[an m];have:=r j y c e m f g;rw[s,ais,an (λh=>this h.symm)]at p;exact h.iJ j c y F f g p
 .intro j c y g;rw[s,Array.size_setIfInBounds];exact h.d8 j c y g
 .intro j c y hj g;rw[d]at hj;by_cases e:j=i;·subst e;exact h.rd j c y hi g
  rw[an e]at hj;exact h.rd j c y (a j e hj).2 g
 .intro j hj;have v:((H.eG (H.get i).aK).set i o').next=H.next:=by rw[ai.eH,ai.iK]
  rw[v];have⟨h1,h2,h3⟩:=h.un j hj;refine⟨?_,h2,λk l=>?_⟩;·rw[d,an (λe=>hi (by rw[<-e];exact h1)),h1];split<;>rfl
  rw[d]at l;by_cases e2:k=i;·rw[aG e2,O]at l;cases l
  rw[an e2]at l;by_cases n:k∈(H.get i).aK;·rw[aG n]at l;cases l
  rw[an n]at l;exact h3 k l
 .exact h.dM
 intro k l N;have:k≠b:=λe=>N (e▸h.wr i b x hi q hb);rw[s,ais,an (λh=>this h.symm)]
theorem bo.AL{a:b8}{b:aM}{H:ai}{w w':World}(h:bo P a b H w)(e:w'.heap=w.heap):bo P a b H w':=⟨by rw[e];exact h.dp,h.ju,h.aK,h.wr,h.dc,by rw[e];exact h.new,h.kC,by rw[e];exact h.iJ,by rw[e];exact h.d8,h.rd,h.un,h.dM⟩
theorem dj.AL{f:b8}{w a w':World}(h:dj f w a)(e:w'.heap=a.heap)(b:w'.os=a.os)(c:w'.tape=a.tape)(d:w'.output=a.output):dj f w w':=⟨b.trans h.os,c.trans h.tape,d.trans h.output,by rw[e];exact h.size,λk h1 h2=>by rw[e];exact h.block k h1 h2⟩
end
section
variable{P:Program}
theorem su(b o i:Nat):(⟨b,o,none⟩:Addr).add i=⟨b,o+i,none⟩:=by simp[Addr.add]
theorem DL(w:World){b:Nat}{cs:Array Value}{a:TypeId}{fr:Nat×Nat}(h:w.heap[b]?=some (.cells cs a fr))(o:Nat):w.cell? ⟨b,o,none⟩=cs[o]?:=by simp[h,World.cell?]
theorem PR(w:World){b:Nat}{cs:Array Value}{a:TypeId}{fr:Nat×Nat}(h:w.heap[b]?=some (.cells cs a fr))(o:Nat):w.frozen? ⟨b,o,none⟩=(decide (fr.1<=o)&&decide (o<fr.2)):=by simp[h,World.frozen?]
theorem PS(w:World){b o:Nat}{v:Value}(h:w.cell? ⟨b,o,none⟩=some v):(load ⟨b,o,none⟩).run P w=.ok v w:=by simp[h]
theorem yB(w:World){b:Nat}{cs:Array Value}{a:TypeId}{fr:Nat×Nat}(h:w.heap[b]?=some (.cells cs a fr))(o m:Nat)(c:o+m<=cs.size):(loadCells ⟨b,o,none⟩ m).run P w=.ok ((cs.toList.drop o).take m).toArray w:=by
 have hl:((cs.toList.drop o).take m).length=m:=by simp;omega
 grind[run_loadCells_list,su,DL]
def wr(cs:Array Value):Nat->List Value->Array Value
 |_,[]=>cs
 |o,v::l=>wr (cs.setIfInBounds o v) (o+1) l
theorem rl:∀(l:List Value)(cs:Array Value)(o:Nat),(wr cs o l).size=cs.size|[],_,_=>rfl|v::l,cs,o=>by rw[wr,rl l];simp
theorem yC:∀(l:List Value)(cs:Array Value)(o j:Nat),o+l.length<=cs.size->(wr cs o l)[j]?=if o<=j/\j<o+l.length then l[j - o]? else cs[j]?
 |[],cs,o,j,_=>by rw[wr,an (by simp only[List.length_nil];omega)]
 |v::l,cs,o,j,h=>by
  simp only[air]at h;rw[wr,yC l _ _ _ (by simp;omega)];simp only[air];by_cases h1:o+1<=j/\j<o+1+l.length;·rw[aG h1,aG aa];rw[show j - o=(j - (o+1))+1 by omega];simp
  rw[an h1];by_cases h2:j=o;·subst h2;rw[aG aa];rw[ais];simp;omega
  rw[an aa,ais,an (λe=>h2 e.symm)]
theorem PT(w:World){b:Nat}{cs:Array Value}{a:TypeId}{fr:Nat×Nat}(h:w.heap[b]?=some (.cells cs a fr))(o:Nat)(v:Value):(w.setCell ⟨b,o,none⟩ v).heap=w.heap.setIfInBounds b (.cells (cs.setIfInBounds o v) a fr):=by
 have hl:b<w.heap.size:=by
  rcases aiU b w.heap.size with hl|hl;·exact hl
  simp[ai3 hl]at h
 unfold World.setCell;grind
theorem DM(b:Nat)(a:TypeId)(fr:Nat×Nat):∀(l:List Value)(w:World)(cs:Array Value)(o:Nat),w.heap[b]?=some (.cells cs a fr)->(w.setCells b o l).heap=w.heap.setIfInBounds b (.cells (wr cs o l) a fr)/\(w.setCells b o l).os=w.os/\(w.setCells b o l).tape=w.tape/\(w.setCells b o l).output=w.output
 |[],w,cs,o,h=>by refine⟨?_,rfl,rfl,rfl⟩;simp only[World.setCells,wr];grind
 |v::l,w,cs,o,h=>by
  have h1:=PT w h o v;have hl:b<w.heap.size:=by
   rcases aiU b w.heap.size with hl|hl;·exact hl
   simp[ai3 hl]at h
  have h2:(w.setCell ⟨b,o,none⟩ v).heap[b]?=some (.cells (cs.setIfInBounds o v) a fr):=by rw[h1,ais];simp[hl]
  have⟨e1,e2,c,d⟩:=DM b a fr l (w.setCell ⟨b,o,none⟩ v) _ (o+1) h2;simp only[World.setCells,wr];refine⟨?_,e2,c,d⟩;grind
theorem HR(w:World){b:Nat}{cs:Array Value}{a:TypeId}{fr:Nat×Nat}(h:w.heap[b]?=some (.cells cs a fr))(o:Nat)(l:List Value)(d:o+l.length<=cs.size)(c:∀i,o<=i->i<o+l.length->¬(fr.1<=i/\i<fr.2))(h1:∀v∈l,v.oneCell'=true):(storeCells ⟨b,o,none⟩ l).run P w=.ok () (w.setCells b o l):=by have:=run_storeCells_cells (P:=P) b o l 0 w (λj hj=>by rw[DL w h];simp;omega) (λj hj=>by rw[PR w h];have:=c (o+0+j) aa aa;simp only[Bool.and_eq_false_iff,decide_eq_false_iff_not];omega) h1;omega
theorem li:∀(l:List AV)(c:az AV)(o j:Nat),(ez c o l).bp .ajS j=if o<=j/\j<o+l.length then l.getD (j - o) .ajS else c.bp .ajS j
 |[],c,o,j=>by rw[ez,an (by simp only[List.length_nil];omega)]
 |v::l,c,o,j=>by
  rw[ez,li l,az.DK _ _ _ _ _ _ (afM _)];simp only[air];by_cases h1:o+1<=j/\j<o+1+l.length;·rw[aG h1,aG aa,show j - o=(j - (o+1))+1 by omega];simp
  rw[an h1];by_cases h2:j=o;·subst h2;rw[aG rfl,aG aa];simp
  rw[an h2,an aa]
theorem nN(l:List AV)(j:Nat)(h:j<l.length):(cq l).bp .ajS j=l.getD j .ajS:=by simp_all[cq,li,aG]
theorem AM:∀(m:Nat)(c:az AV)(n o:Nat)(l:List AV),fW c n o m=some l->l.length=m/\(0<m->o+m<=n)/\∀j,j<m->l[j]?=some (c.bp .ajS (o+j))
 |0,c,n,o,l,h=>by simp_all[fW,abv]
 |m+1,c,n,o,l,h=>by
  simp only[fW]at h;split at h
  .split at h;·rename_i a hl;simp only[abv]at h;subst h;have⟨h1,h2,h3⟩:=AM m c n (o+1) a hl;grind
   grind
  grind
theorem AN{f:aM}{c:az AV}{n e:Nat}{b:Bool}{aK:List ah}{fz x:Nat}{cs:Array Value}{g:TypeId}{fr:Nat×Nat}(h:OR P f (.cells c n e b aK fz) x (.cells cs g fr)){o m:Nat}{l:List AV}(hl:fW c n o m=some l):aZ f l ((cs.toList.drop (x+o)).take m)/\(0<m->x+o+m<=cs.size):=by
 have⟨_,h2,h3,_⟩:=h;have⟨p,j,a3⟩:=AM m c n o l hl;have d:0<m->x+o+m<=cs.size:=λk=>by have:=j k;omega
 refine⟨aZ.DJ ?_ ?_,d⟩;·grind
 intro i v q a r;have hi:i<m:=by
  rcases aiU i m with h|h;·exact h
  rw[aiJ aa]at a;cases a
 rw[a3 i hi]at a;injection a with a;subst a;have⟨y,s,t⟩:=h3 (o+i) aa;grind
theorem aZ.DN{b:aM}:∀{l:List AV}{m:List Value},aZ b l m->cU l=true->∀v∈m,v.oneCell'=true
 |[],[],_,_,_,h=>by grind
 |a::l,c::m,k,h,v,d=>by
  simp only[cU,ah4]at h;rcases acT.1 d with e|e;·subst e;have:=VR.cW k.1 h.1;cases v<;>simp_all[Value.oneCell']
  exact aZ.DN k.2 h.2 v e
 |[],_::_,k,_,_,_=>by trivial
 |_::_,[],k,_,_,_=>by grind
theorem yD{v:b8}{t:aM}{H H':ai}{w:World}(h:bo P v t H w){i:ah}{o:Nat}{l:List AV}(d:gF H i o l=some H'){b x:Nat}(hb:t i=some (b,x)){m:List Value}(z:aZ t l m):(storeCells ⟨b,x+o,none⟩ m).run P w=.ok () (w.setCells b (x+o) m)/\bo P v t H' (w.setCells b (x+o) m)/\dj v w (w.setCells b (x+o) m):=by
 unfold gF at d;split at d
 .rename_i c n e aK fz hi;split at d
  .rename_i B;simp only[ah4,decide_eq_true_eq]at B;have⟨⟨O,Q⟩,A⟩:=B;injection d with d;subst d;have f:H.get i≠.none:=by rw[hi];simp
   have⟨R,S,F,u,hl,g,a⟩:=h.aE f;rw[hb]at u;injection u with u;injection u with e1 e2;subst e1;subst e2;rw[hi]at a;cases F with
   |cells cs C fr=>
    simp only[OR]at a;have⟨G,I,J,D⟩:=a;have E:=aZ.length z;have s:=HR (P:=P) w g (x+o) m aa (λj p k=>D trivial j aa aa) (aZ.DN z A);have⟨e1,e2,K,L⟩:=DM b C fr m w cs (x+o) g;have:=h.oW (i:=i) (o':=.cells (ez c o l) n e true [] fz) (ob':=.cells (wr cs (x+o) m) C fr) f (by rw[hi];rfl) hb rfl (by
     simp only[OR];refine⟨G,by rw[rl];exact I,λj hj=>?_,λ_ j p k=>D trivial j p (by rw[rl]at k;exact k)⟩;rw[li,yC _ _ _ _ aa];by_cases q:o<=j/\j<o+l.length;·rw[aG q,aG aa,show x+j - (x+o)=j - o by omega];have r:j - o<l.length:=aa;have⟨y,M,N⟩:=aZ.get z (j - o) l[j - o] (by simp[r]);exact⟨y,M,by simpa[List.getD,r]using N⟩
     rw[an q,an aa];exact J j hj) (by have:=h.iJ i b x _ f hb g;rw[hi]at this;simp only[eP]at this⊢;rw[rl];exact this) e1 e2 K L;rw[hi]at this;exact⟨s,this.1,this.2⟩
   |_=>simp[OR]at a
  cases d
 cases d
end
section
variable{P:Program}
theorem bo.HS{Wr:b8}{F:aM}{H:ai}{w:World}(h:bo P Wr F H w){i:ah}{c:az AV}{m e:Nat}{aK:List ah}{fz:Nat}(hi:H.get i=.cells c m e true aK fz){b x:Nat}(hb:F i=some (b,x)){c2:az AV}{n2 e2 fz2 b2 x2:Nat}{ob2:Obj}(q:Nat×Nat)(hq:eP P q (.cells c2 n2 e2 true (i::aK) fz2) ob2)(a8:b2=b->q=F.k b)(hr:OR P (F.add H.next b2 x2 q) (.cells c2 n2 e2 true (i::aK) fz2) x2 ob2){w':World}(a':w'.os=w.os)(ba:w'.tape=w.tape)(bb:w'.output=w.output)(d:(b2=w.heap.size/\w'.heap=w.heap.push ob2)\/(b2=b/\w'.heap=w.heap.setIfInBounds b ob2/\x+m<=x2+n2/\∃cs N el fr,w.heap[b]?=some (.cells cs el fr)/\ob2=.cells N el fr/\N.size=cs.size/\∀j,j<x+m->N[j]?=cs[j]?)):bZ F (F.add H.next b2 x2 q)/\bo P Wr (F.add H.next b2 x2 q) ((H.set i (.cells c m e false aK fz)).new (.cells c2 n2 e2 true (i::aK) fz2)) w'/\dj Wr w w':=by
 have C:H.get i≠.none:=by rw[hi];simp
 have ay:(H.get i).jL=false:=by rw[hi];rfl
 have J:(H.get i).aK=aK:=by rw[hi];rfl
 have O:(H.get i).len=m:=by rw[hi];rfl
 have hf:=h.dc H.next (afM _);have p:bZ F (F.add H.next b2 x2 q):=aM.pQ b2 x2 q hf.2 (λj o y e' s=>by
  rcases d with⟨h1,_⟩|⟨h1,_⟩;·have:=h.d8 j o y e';omega
  rw[h1];exact(a8 h1).symm);have bc:i≠H.next:=λe=>C (e▸hf.1);have⟨c',x',ob,e',hl,cy,cE⟩:=h.aE C;rw[hb]at e';injection e' with e';injection e' with e1 cR;subst e1;have a1:Wr.w b:=h.wr i b x C ay hb;have l:∀j,((H.set i (.cells c m e false aK fz)).new (.cells c2 n2 e2 true (i::aK) fz2)).get j=if j=H.next then .cells c2 n2 e2 true (i::aK) fz2 else if j=i then .cells c m e false aK fz else H.get j:=by intro j;rw[ai.cO,ai.eH,ai.aF]
 have n:∀j,j≠H.next->(if j=i then(bP.cells c m e false aK fz)else H.get j)≠.none->H.get j≠.none:=by
  intro j _ hj;by_cases e:j=i;·subst e;exact C
  rwa[an e]at hj
 have f:∀j,(if j=i then(bP.cells c m e false aK fz)else H.get j).aK=(H.get j).aK/\(if j=i then(bP.cells c m e false aK fz)else H.get j).len=(H.get j).len:=by
  intro j;by_cases e:j=i;·subst e;rw[aG rfl,hi];exact⟨rfl,rfl⟩
  rw[an e];exact⟨rfl,rfl⟩
 have E:∀j y,j≠i->H.get j≠.none->F j=some (b,y)->j∈aK/\y+(H.get j).len<=x+m:=by
  intro j y T hj a;rcases h.ju i j b x y (λe=>T e.symm) C hj hb a with⟨hm,_⟩|⟨hm,a2⟩;·have:=(h.aK i j hm).2 C;rw[ay]at this;cases this
  rw[J]at hm;rw[O]at a2;exact⟨hm,a2⟩
 have Z:∀j o y,H.get j≠.none->F j=some (o,y)->o=b2->(j=i\/j∈aK)/\y+(H.get j).len<=x2+n2:=by
  intro j o y hj a s;rcases d with⟨h1,_⟩|⟨h1,_,h3,_⟩;·have⟨bv,y',_,V,b0,_⟩:=h.aE hj;rw[a]at V;injection V with V;injection V with u _;omega
  by_cases e:j=i;·subst e;rw[hb]at a;injection a with a;injection a with _ a;subst a;exact⟨.inl rfl,by rw[O];exact h3⟩
  have b3:o=b:=s.trans h1;subst b3;have⟨D,I⟩:=E j y e hj a;exact⟨.inr D,aa⟩
 refine⟨p,⟨?_,?_,?_,?_,?_,?_,?_,?_,?_,?_,?_,?_⟩,⟨a',ba,bb,?_,?_⟩⟩
 .intro j hj;rw[l]at hj⊢;by_cases X:j=H.next
  .subst X;rw[aG rfl];refine⟨b2,x2,ob2,aM.eA ..,?_,hr⟩;rcases d with⟨h1,h2⟩|⟨h1,h2,_⟩;·rw[h2,h1];simp
   rw[h2,h1,ais];simp[hl]
  rw[an X]at hj⊢;have r:=n j X hj;have⟨o,y,oc,S,c8,s,L⟩:=h.aE r;have B:OR P F (if j=i then(bP.cells c m e false aK fz)else H.get j) y oc:=by
   by_cases u:j=i;·subst u;rw[aG rfl];rw[hi]at L;cases oc<;>simp only[OR]at L⊢;exact⟨L.1,L.2.1,L.2.2.1,λh=>by cases h⟩
   rw[an u];exact L
  rcases d with⟨h1,h2⟩|⟨h1,h2,h3,cs,N,el,fr,D,I,g3,g4⟩;·exact⟨o,y,oc,(p _ _ S).1,by rw[h2,ajl,an aa];exact s,OR.mono p B⟩
  by_cases e4:o=b
  .subst e4;rw[s]at D;injection D with D;subst D;refine⟨o,y,ob2,(p _ _ S).1,by rw[h2,ais];simp[hl],OR.mono p ?_⟩;subst I;have cx:y+(H.get j).len<=x+m:=by
    by_cases u:j=i;·subst u;rw[hb]at S;injection S with S;injection S with _ S;rw[O];omega
    exact(E j y u r S).2
   have Q:(if j=i then(bP.cells c m e false aK fz)else H.get j).jL=true:=by
    by_cases u:j=i;·rw[aG u];rfl
    rw[an u];exact(h.aK j i (by rw[J];exact(E j y u r S).1)).2 r
   have ag:=(f j).2;generalize(if j=i then(bP.cells c m e false aK fz)else H.get j)=oj at B Q ag;cases oj with
   |cells c5 n5 e5 b4 p5 f5=>
    simp only[OR]at B⊢;have⟨k1,k2,k3,k4⟩:=B;have c9:n5=(H.get j).len:=ag;have b6:b4=false:=by simpa[bP.jL]using Q
    refine⟨k1,aa,λt ht=>?_,λh=>by rw[b6]at h;cases h⟩;have⟨v,hv,b7⟩:=k3 t ht;exact⟨v,by rw[g4 _ aa];exact hv,b7⟩
   |_=>simp[bP.jL]at Q
  exact⟨o,y,oc,(p _ _ S).1,by rw[h2,ais,an (λh=>e4 h.symm)];exact s,OR.mono p B⟩
 .intro j k o y z a6 hj A a Y;rw[l]at hj A;rw[l,l];by_cases e1:j=H.next
  .subst e1;have e2:k≠H.next:=λh=>a6 h.symm;rw[an e2]at A⊢;rw[aG rfl];have G:=n k e2 A;simp only[aM.add,an e2]at Y;rw[aM.eA]at a;injection a with a;injection a with b' ca;have⟨D,I⟩:=Z k o z G Y b'.symm;right;refine⟨?_,?_⟩
   .rcases D with g|g;·rw[g];exact acI ..
    exact adT _ g
   rw[(f k).2,<-ca];exact I
  by_cases e2:k=H.next
  .subst e2;rw[an e1]at hj⊢;rw[aG rfl];have r:=n j e1 hj;simp only[aM.add,an e1]at a;rw[aM.eA]at Y;injection Y with Y;injection Y with cd cf;have⟨D,I⟩:=Z j o y r a cd.symm;left;refine⟨?_,?_⟩
   .show j∈i::aK;rcases D with g|g;·rw[g];exact acI ..
    exact adT _ g
   rw[(f j).2,<-cf];exact I
  rw[an e1]at hj⊢;rw[an e2]at A⊢;have r:=n j e1 hj;have G:=n k e2 A;simp only[aM.add,an e1,an e2]at a Y;rw[(f j).1,(f j).2,(f k).1,(f k).2];exact h.ju j k o y z a6 r G a Y
 .intro j k A;rw[l]at A;rw[l];have ax:((H.set i (.cells c m e false aK fz)).new (.cells c2 n2 e2 true (i::aK) fz2)).next.am=H.next.am+1:=by show(H.next.succ).am=_;exact ah.eX _
  rw[ax];by_cases e2:k=H.next
  .rw[aG e2]at A;have G:j∈i::aK:=A;rcases acT.1 G with g|g;·subst g;have:=h.AJ C;refine⟨aa,λ_=>?_⟩;rw[an bc,aG rfl];rfl
   obtain⟨D,I⟩:=h.aK j i (by rw[J];exact g);refine⟨aa,λhj=>?_⟩;have e1:j≠H.next:=λe=>by subst e;omega
   rw[an e1]at hj⊢;by_cases u:j=i;·rw[aG u];rfl
   rw[an u]at hj⊢;exact I hj
  rw[an e2,(f k).1]at A;have⟨D,I⟩:=h.aK j k A;refine⟨aa,λhj=>?_⟩;have e1:j≠H.next:=λe=>by subst e;omega
  rw[an e1]at hj⊢;by_cases u:j=i;·rw[aG u];rfl
  rw[an u]at hj⊢;exact I hj
 .intro j o y hj M a;rw[l]at hj M;by_cases e1:j=H.next
  .subst e1;rw[aM.eA]at a;injection a with a;injection a with a _;rcases d with⟨h1,_⟩|⟨h1,_⟩;·exact(h.new o aa).1
   rw[<-a,h1];exact a1
  rw[an e1]at hj M;simp only[aM.add,an e1]at a;by_cases u:j=i;·rw[aG u]at M;cases M
  rw[an u]at hj M;exact h.wr j o y hj M a
 .intro j hj;have r:H.next.succ.am<=j.am:=hj;rw[ah.eX]at r;have e1:j≠H.next:=λe=>by subst e;omega
  have u:j≠i:=λe=>by subst e;have:=h.AJ C;omega
  rw[l,an e1,an u];have⟨D,I⟩:=h.dc j aa;exact⟨D,by simp[aM.add,e1,I]⟩
 .intro k A;refine h.new k ?_;rcases d with⟨_,h2⟩|⟨_,h2,_⟩;·rw[h2]at A;simp at A;omega
  rw[h2]at A;simpa using A
 .intro g hg;exact(p _ _ (h.kC g hg)).1
 .intro j o y oc hj a s;rw[l]at hj⊢;by_cases X:j=H.next
  .subst X;rw[aM.eA]at a;injection a with a;injection a with a _;subst a;rw[aG rfl,aM.sr];have:oc=ob2:=by
    rcases d with⟨h1,h2⟩|⟨h1,h2,_⟩;·rw[h2,h1,ajl,aG rfl]at s;injection s with s;exact s.symm
    rw[h2,h1,ais]at s;simp only[hl,bi,abv]at s;exact s.symm
   rw[this];exact hq
  rw[an X]at hj⊢;have r:=n j X hj;simp only[aM.add,an X]at a;rw[show(F.add H.next b2 x2 q).k o=F.k o from(p _ _ a).2];have b0:=h.d8 j o y a;have⟨bv,y',av,W,_,K,_⟩:=h.aE r;rw[a]at W;injection W with W;injection W with cn cp;subst cn;subst cp;have R:=h.iJ j o y av r a K;have ef:eP P (F.k o) (if j=i then(bP.cells c m e false aK fz)else H.get j) av:=by
   by_cases u:j=i;·subst u;rw[aG rfl];rw[hi]at R;cases av<;>exact R
   rw[an u];exact R
  rcases d with⟨h1,h2⟩|⟨h1,h2,h3,cs,N,el,fr,D,I,g3,g4⟩;·rw[h2,ajl,an aa,K]at s;injection s with s;rw[<-s];exact ef
  rw[h2,ais]at s;by_cases e4:b=o;·subst e4;simp only[hl,bi,abv]at s;rw[K]at D;injection D with D;subst D;rw[<-s,I];generalize(if j=i then(bP.cells c m e false aK fz)else H.get j)=oj at ef;cases oj<;>simp only[eP]at ef⊢;rw[g3];exact ef
  rw[an e4,K]at s;injection s with s;rw[<-s];exact ef
 .intro j o y a;by_cases e1:j=H.next
  .subst e1;rw[aM.eA]at a;injection a with a;injection a with a _;rcases d with⟨h1,h2⟩|⟨h1,h2,_⟩;·rw[h2,Array.size_push];omega
   rw[h2,Array.size_setIfInBounds];omega
  simp only[aM.add,an e1]at a;have:=h.d8 j o y a;rcases d with⟨h1,h2⟩|⟨h1,h2,_⟩;·rw[h2,Array.size_push];omega
  rw[h2,Array.size_setIfInBounds];omega
 .intro j o y hj a;rw[l]at hj;by_cases e1:j=H.next
  .subst e1;rw[aM.eA]at a;injection a with a;injection a with a _;rcases d with⟨h1,_⟩|⟨h1,_⟩;·exact(h.new o aa).2
   rw[<-a,h1];exact h.rd i b x C hb
  rw[an e1]at hj;simp only[aM.add,an e1]at a;exact h.rd j o y (n j e1 hj) a
 .intro j hj;have⟨h1,h2,h3⟩:=h.un j hj;have aw:j≠H.next:=λe=>by subst e;omega
  have T:j≠i:=λe=>C (by rw[<-e];exact h1);refine⟨by rw[l,an aw,an T];exact h1,?_,λk A=>?_⟩;·show j.am<H.next.succ.am;rw[ah.eX];omega
  rw[l]at A;by_cases e2:k=H.next
  .rw[aG e2]at A;have G:j∈i::aK:=A;rcases acT.1 G with g|g;·exact T g
   exact h3 i (by rw[J];exact g)
  rw[an e2,(f k).1]at A;exact h3 k A
 .intro j hj;have⟨h1,h2⟩:=h.dM j hj;have aw:j≠H.next:=λe=>by have:=(h.un j h1).2.1;subst e;omega
  exact⟨h1,by simp[aM.add,aw,h2]⟩
 .rcases d with⟨_,h2⟩|⟨_,h2,_⟩<;>rw[h2]<;>simp
 intro k A cv;rcases d with⟨_,h2⟩|⟨_,h2,_⟩;·rw[h2,ajl,an aa]
 have:k≠b:=λe=>cv (e▸a1);rw[h2,ais,an (λh=>this h.symm)]
end
section
mutual
theorem AO(ρ:aM):∀(v:Value)(a:AV),jK v=some a->VR ρ a v
 |.bool b,a,h=>by grind[jK,Option.some.injEq,VR]
 |.int k n,a,h=>by grind[jK,Option.some.injEq,VR]
 |.string s,a,h=>by grind[jK,Option.some.injEq,VR]
 |.pointer none,a,h=>by grind[jK,Option.some.injEq,VR]
 |.slice none 0 0,a,h=>by grind[jK,Option.some.injEq,VR]
 |.map none,a,h=>by grind[jK,Option.some.injEq,VR]
 |.nilFunc,a,h=>by grind[jK,Option.some.injEq,VR]
 |.nilIface,a,h=>by grind[jK,Option.some.injEq,VR]
 |.func (.func f) x y,a,h=>by
  simp only[jK]at h
  split at h
  .rename_i l m hl c
   injection h with h;subst h
   simp only[VR]
   exact⟨trivial,yE ρ x.toList l hl,yE ρ y.toList m c⟩
  grind
 |.agg l,a,h=>by
  simp only[jK,af0]at h
  obtain⟨m,c,h⟩:=h;subst h
  exact yE ρ l.toList m c
 |.tuple l,a,h=>by
  simp only[jK,af0]at h
  obtain⟨m,c,h⟩:=h;subst h
  exact yE ρ l.toList m c
 |.iface t v,a,h=>by
  simp only[jK,af0]at h
  obtain⟨m,c,h⟩:=h;subst h
  simp only[VR];exact⟨trivial,AO ρ v m c⟩
 |.float ..,a,h=>by trivial
 |.complex ..,a,h=>by trivial
 |.pointer (some _),a,h=>by trivial
 |.slice (some _) _ _,a,h=>by trivial
 |.slice none (_+1) _,a,h=>by trivial
 |.slice none 0 (_+1),a,h=>by trivial
 |.map (some _),a,h=>by trivial
 |.chan _,a,h=>by trivial
 |.func (.method _) _ _,a,h=>by trivial
 |.func (.methodOf ..) _ _,a,h=>by trivial
 |.func (.via ..) _ _,a,h=>by trivial
 |.func (.yield _) _ _,a,h=>by trivial
theorem yE(ρ:aM):∀(l:List Value)(m:List AV),so l=some m->aZ ρ m l
 |[],m,h=>by simp_all[so,abv,aZ]
 |v::l,m,h=>by
  simp only[so]at h
  split at h
  .rename_i a b c d
   injection h with h;subst h
   exact⟨AO ρ v a c,yE ρ l b d⟩
  grind
end
section fQ
variable{ρ:aM}{c:Value}
theorem VR.l9{i:ah}{o:Nat}(h:VR ρ (.aD i o) c):∃b x,ρ i=some (b,x)/\c=.pointer (some ⟨b,x+o,none⟩):=by
 cases c with
 |pointer p=>cases p with|none=>trivial|some p=>simp_all[VR]
 |_=>trivial
theorem VR.AP(h:VR ρ .j5 c):c=.pointer none:=by grind[VR]
theorem VR.oX{b:Bool}(h:VR ρ (.bool b) c):c=.bool b:=by cases c<;>simp only[VR]at h;grind
theorem VR.iW{k:Nat}{n:Int}(h:VR ρ (.int k n) c):∃a,k=kc a/\c=.int a n:=by cases c<;>simp only[VR]at h;grind
theorem VR.mP{s:List Nat}(h:VR ρ (.str s) c):∃t:ByteArray,t.data.toList.map ajs=s/\c=.string t:=by cases c<;>simp only[VR]at h;grind
theorem VR.ma{i:ah}{o len cap:Nat}{ex:Bool}(h:VR ρ (.slice i o len cap ex) c):∃ad a,c=.slice (some ad) len a/\len<=cap/\cap<=a/\(ex=true->a=cap)/\∃b x,ρ i=some (b,x)/\(a≠0->ad=⟨b,x+o,none⟩)/\(ex=false->x+o+a*(ρ.k b).2<=(ρ.k b).1):=by
 cases c with
 |slice p n a=>cases p with|none=>trivial|some p=>grind[VR]
 |_=>trivial
theorem VR.lj(h:VR ρ .bh c):c=.slice none 0 0:=by grind[VR]
theorem VR.oY{i:ah}(h:VR ρ (.map i) c):∃b,ρ i=some (b,0)/\c=.map (some b):=by
 cases c with
 |map p=>cases p with|none=>trivial|some p=>exact⟨p,h,rfl⟩
 |_=>trivial
theorem VR.sw(h:VR ρ .cL c):c=.map none:=by grind[VR]
theorem VR.rm{l:List AV}(h:VR ρ (.agg l) c):∃cs:Array Value,aZ ρ l cs.toList/\c=.agg cs:=by cases c<;>simp only[VR]at h;grind
theorem VR.PU{l:List AV}(h:VR ρ (.tuple l) c):∃cs:Array Value,aZ ρ l cs.toList/\c=.tuple cs:=by cases c<;>simp only[VR]at h;grind
theorem VR.wd{t:Nat}{v:AV}(h:VR ρ (.iface t v) c):∃x,VR ρ v x/\c=.iface t x:=by cases c<;>simp only[VR]at h;grind
theorem VR.yF(h:VR ρ .nilIface c):c=.nilIface:=by grind[VR]
theorem VR.AQ{f:Nat}{a b:List AV}(h:VR ρ (.func f a b) c):∃x y:Array Value,aZ ρ a x.toList/\aZ ρ b y.toList/\c=.func (.func f) x y:=by cases c with|func fn x y=>cases fn<;>simp only[VR]at h;exact⟨x,y,h.2.1,h.2.2,by rw[h.1]⟩|_=>simp only[VR]at h
theorem VR.AR{i:ah}(h:VR ρ (.yield i) c):∃b,ρ i=some (b,0)/\c=.func (.yield b) #[] #[]:=by cases c with|func fn x y=>cases fn<;>simp only[VR]at h;exact⟨_,h.1,by rw[h.2.1,h.2.2]⟩|_=>simp only[VR]at h
theorem VR.we(h:VR ρ .nilFunc c):c=.nilFunc:=by grind[VR]
end fQ
variable{P:Program}
theorem bQ{t:TypeId}{d:TypeDesc}(h:P.underlying t=some d)(w:World):(underlying t).run P w=.ok d w:=by simp[h,underlying]
theorem HT{t:TypeId}{s:Nat}(h:eW P t=some s):∃i,P.info? t=some i/\i.size=s:=by simp_all[eW,af0]
theorem DO{t:TypeId}{s:Nat}(h:vW P t=some s):∃i,P.info? t=some i/\i.bytes=s:=by simp_all[vW,af0]
theorem wi{t:TypeId}{i:TypeInfo}(h:P.info? t=some i)(w:World):(typeInfo t).run P w=.ok i w:=by simp[h,typeInfo]
theorem iL{t:TypeId}{s:Nat}(h:eW P t=some s)(w:World):(sizeOf t).run P w=.ok s w:=by have⟨i,h1,h2⟩:=HT h;simp[h1,h2,sizeOf,wi]
theorem PV{v:Value}{z:AV}(h:jK v=some z):z.br=true:=by
 cases z<;>first|rfl|skip
 unfold jK at h;grind[Option.map_eq_some_iff]
theorem HV{v:AV}(h:cU v.cells=true):v.br=true:=by cases v<;>first|rfl|(simp[AV.cells,cU,AV.cW]at h)
theorem PW{t:TypeId}{z:AV}(h:nJ P t=some z):∃i v,P.info? t=some i/\i.zero=some v/\jK v=some z:=by simp_all[nJ,ab1]
theorem sx{t:TypeId}{z:AV}(h:nJ P t=some z):∃v,(∀w,(zeroValue t).run P w=.ok v w)/\(∀ρ,VR ρ z v)/\z.br=true:=by have⟨i,v,h1,h2,h3⟩:=PW h;exact⟨v,λw=>by simp[h1,h2,zeroValue,wi],λρ=>AO ρ v z h3,PV h3⟩
theorem yG{t:TypeId}{b:Bool}(h:mN P t=some b)(w:World):(isAgg t).run P w=.ok b w:=by simp only[mN,af0]at h;have⟨d,h1,h2⟩:=h;simp only[isAgg,Sem.run_bind,bQ h1,Result.andThen_ok];cases d<;>simp_all
theorem wl{i:b8}{ρ:aM}{H:ai}{w:World}{e:Nat}{x:Operand}{h:aJ}(b:ff P e x=some h){ac:az AV}{a:Act}(j:gO ρ e ac a.tmps)(k:bo P i ρ H w):VR ρ (gv ac h) (a.eval x):=by
 cases x with
 |tmp t=>
  simp only[ff]at b;split at b;·rename_i d;injection b with b;subst b;exact j.2 t d
  grind
 |const v=>simp only[ff,af0]at b;obtain⟨c,l,b⟩:=b;subst b;exact AO ρ v c l
 |global g=>
  simp only[ff]at b;split at b;·rename_i d;injection b with b;subst b;exact⟨g,0,k.kC g d,rfl⟩
  grind
 |func f=>grind[ff,Option.some.injEq,gv,Act.eval,VR,aZ]
theorem wm{e:b8}{ρ:aM}{H:ai}{w:World}{b:Nat}{ac:az AV}{a:Act}(c:gO ρ b ac a.tmps)(d:bo P e ρ H w):∀{l:List Operand}{ol:List aJ},l.mapM (ff P b)=some ol->aZ ρ (ol.map (gv ac)) (l.map a.eval)|[],ol,h=>by simp_all[aZ]|x::l,ol,h=>by simp only[ajx,afN,ab1,ahZ,abv]at h;have⟨g,h1,f,h2,h3⟩:=h;subst h3;exact⟨wl h1 c d,wm c d h2⟩
def afY(P:Program)(s:Sem Value)(w:World)(Q:Value->World->Prop):Prop:=∃v w',s.run P w=.ok v w'/\Q v w'
def cI(P:Program)(b:b8)(ρ:aM)(w:World)(v:AV)(H':ai)(c:Value)(w':World):Prop:=
 ∃a,bZ ρ a/\VR a v c/\bo P b a H' w'/\dj b w w'
theorem cI.bK{a:b8}{ρ:aM}{H:ai}{w:World}{v:AV}{c:Value}(b:bo P a ρ H w)(h:VR ρ v c):cI P a ρ w v H c w:=⟨ρ,bZ.refl ρ,h,b,dj.refl a w⟩
theorem wn{b:b8}{ρ:aM}{H:ai}{w:World}(d:bo P b ρ H w){l:List AV}{m:List Value}(h:aZ ρ l m)(e n:Nat)(o:n=l.length)(a:List Value):bZ ρ (ρ.add H.next w.heap.size 0 ((m++a).length,(eW P e).getD 0))/\bo P b (ρ.add H.next w.heap.size 0 ((m++a).length,(eW P e).getD 0)) (H.new (.cells (cq l) n e true [] 0)) {w with heap:=w.heap.push (.cells (m++a).toArray e (0,0))}/\dj b w {w with heap:=w.heap.push (.cells (m++a).toArray e (0,0))}:=by have f:bZ ρ (ρ.add H.next w.heap.size 0 ((m++a).length,(eW P e).getD 0)):=aM.pQ w.heap.size 0 _ (d.dc H.next (afM _)).2 (λj c y k p=>by have:=d.d8 j c y k;omega);refine d.alloc _ (by rfl) aC rfl ?_;have g:=aZ.length h;simp only[OR];refine⟨trivial,by grind,λi hi=>?_,λ_ i _ _=>by simp⟩;grind[aZ.get,List.getElem?_append_left,nN,VR.mono,List.getD]
end
section
variable{P:Program}
def bC(P:Program)(d:b8)(ρ:aM)(w:World)(s:Sem Next)(v:AV)(H':ai):Prop:=
 ∃c w',(s.run P w=.ok (.value c) w'\/(s.run P w=.ok .skip w'/\c=undef))/\cI P d ρ w v H' c w'
theorem bC.val{d:b8}{ρ:aM}{w w':World}{s:Sem Next}{v:AV}{H':ai}{c:Value}(h:s.run P w=.ok (.value c) w')(a:cI P d ρ w v H' c w'):bC P d ρ w s v H':=⟨c,w',.inl h,a⟩
section
variable{d:b8}{ρ:aM}{H H':ai}{w:World}{nt:Nat}{ac:az AV}{a:Act}{o:Oper}{ao:bJ}{v:AV}
structure dk(P:Program)(Wr:b8)(ρ:aM)(H:ai)(w:World)(nt:Nat)(ac:az AV)(a:Act):Prop where
 E:gO ρ nt ac a.tmps
 I:bo P Wr ρ H w
theorem dk.gv(h:dk P d ρ H w nt ac a){x:Operand}{b:aJ}(c:ff P nt x=some b):VR ρ (gv ac b) (a.eval x):=wl c h.E h.I
theorem HW(h:dk P d ρ H w nt ac a){x:Operand}(b:o.op=.move x\/o.op=.assign x)(f:bL P nt o=some ao)(he:aH ao ac H=some (v,H')):bC P d ρ w (execOp a.eval o) v H':=by
 have e:∃c,ff P nt x=some c/\ao=.bg c:=by rcases b with b|b<;>simp only[bL,b,afN,ab1,ahZ,abv]at f<;>obtain⟨c,h1,h2⟩:=f<;>exact⟨c,h1,h2.symm⟩
 obtain⟨c,h1,rfl⟩:=e;obtain⟨rfl,rfl⟩:=he;refine bC.val (c:=a.eval x) (w':=w) ?_ (cI.bK h.I (h.gv h1));rcases b with b|b<;>simp[execOp,b]
theorem PX(h:dk P d ρ H w nt ac a){c x y:Operand}(b:o.op=.pick c x y)(e:bL P nt o=some ao)(he:aH ao ac H=some (v,H')):bC P d ρ w (execOp a.eval o) v H':=by
 simp only[bL,b,afN,ab1,ahZ,abv]at e;obtain⟨j,h1,k,h2,l,h3,rfl⟩:=e;simp only[aH]at he;have f:=h.gv h1;split at he
 .rename_i t g;obtain⟨rfl,rfl⟩:=he;rw[g]at f;have i:=f.oX;refine bC.val (c:=if t then a.eval x else a.eval y) (w':=w) (by simp[b,i,execOp,asBool]) (cI.bK h.I ?_);cases t;·exact h.gv h3
  exact h.gv h2
 grind
theorem PY(h:dk P d ρ H w nt ac a){e:TypeId}(f:o.op=.alloc e)(g:bL P nt o=some ao)(he:aH ao ac H=some (v,H')):bC P d ρ w (execOp a.eval o) v H':=by simp only[bL,f,afN,ab1,ahZ,abv]at g;obtain⟨z,h1,rfl⟩:=g;obtain⟨rfl,rfl⟩:=he;have⟨zv,i,b,c⟩:=sx h1;have⟨j,k,l⟩:=wn h.I (VR.cells (b ρ) c) e z.cells.length rfl [];refine bC.val (c:=.pointer (some ⟨w.heap.size,0,none⟩)) (w':={w with heap:=w.heap.push (.cells (zv.cells.toList++[]).toArray e (0,0))}) ?_ ⟨_,j,?_,k,l⟩;all_goals simp[f,i,execOp,Instr.alloc,newVar,newRow,VR,aM.eA]
theorem PZ(h:dk P d ρ H w nt ac a){e:TypeId}{x:Operand}(c:o.op=.box e x)(f:bL P nt o=some ao)(he:aH ao ac H=some (v,H')):bC P d ρ w (execOp a.eval o) v H':=by
 simp only[bL,c,afN,ab1,ahZ,abv]at f;obtain⟨k,h1,rfl⟩:=f;simp only[aH]at he;split at he;·rename_i b;obtain⟨rfl,rfl⟩:=he;have⟨g,i,j⟩:=wn h.I (VR.cells (h.gv h1) (HV b)) e _ rfl [];refine bC.val (c:=.pointer (some ⟨w.heap.size,0,none⟩)) (w':={w with heap:=w.heap.push (.cells ((a.eval x).cells.toList++[]).toArray e (0,0))}) ?_ ⟨_,g,?_,i,j⟩;all_goals simp[c,execOp,Instr.box,newVar,newRow,VR,aM.eA]
 grind
theorem HZ(B:bo P d ρ H w){u:AV}{c:Value}(C:VR ρ u c){t:TypeId}{n:Nat}{g:Bool}(hg:mN P t=some g)(z:g=true->eW P t=some n)(o:g=false->n=1)(he:gY H u n g=some v):∃b,c=.pointer (some b)/\∃r,(loadVar t b).run P w=.ok r w/\VR ρ v r:=by
 unfold gY at he;split at he
 .rename_i id off;obtain⟨b,x,hb,rfl⟩:=C.l9;refine⟨_,rfl,?_⟩;simp only[dE]at he;split at he
  .rename_i l hl;split at hl
   .rename_i c m e F aK fz hi;have p:H.get id≠.none:=by rw[hi];simp
    have⟨G,I,D,j,h,i,a⟩:=B.aE p;rw[hb]at j;injection j with j;injection j with e1 e2;subst e1;subst e2;rw[hi]at a;cases D with
    |cells cs J fr=>
     have⟨f,E⟩:=AN a hl;cases g with
     |true=>
      simp only[bi,abv]at he;subst he;rcases Nat.eq_zero_or_pos n with k|k
      .subst k;refine⟨.agg #[],?_,?_⟩;·simp[loadVar,yG hg,iL (z rfl),loadCells,loadCellsFrom]
       simp only[VR];simpa using f
      refine⟨.agg ((cs.toList.drop (x+off)).take n).toArray,?_,by simp only[VR];simpa using f⟩;simp only[loadVar,Sem.run_bind,yG hg,Result.andThen_ok,bi,iL (z rfl),yB w i (x+off) n (E k),Sem.run_pure]
     |false=>
      have:=o rfl;subst this;simp only[acg,bF]at he;obtain⟨y,A⟩:∃y,cs[x+off]?=some y:=⟨cs[x+off],aC⟩;have s:(cs.toList.drop (x+off)).take 1=[y]:=by
       have h:x+off<cs.toList.length:=by simp;omega
       rw[ah6 h];simp only[ajf,ajm];have:cs.toList[x+off]=y:=by simpa[Array.getElem?_eq_getElem (show x+off<cs.size by omega)]using A
       rw[this]
      rw[s]at f;cases l with|nil=>simp[aZ]at f|cons q l=>simp only[List.head?_cons,abv]at he;subst he;refine⟨y,?_,f.1⟩;simp only[loadVar,Sem.run_bind,yG hg,Result.andThen_ok,acg,bF];exact PS w (by rw[DL w i];exact A)
    |_=>simp[OR]at a
   cases hl
  cases he
 cases he
theorem P1(h:dk P d ρ H w nt ac a){t:TypeId}{x:Operand}(i:o.op=.load t x)(c:bL P nt o=some ao)(he:aH ao ac H=some (v,H')):bC P d ρ w (execOp a.eval o) v H':=by
 simp only[bL,i,afN,ab1,ahZ,abv]at c;have⟨g,hg,c⟩:=c;have key:∃e n,ff P nt x=some e/\(g=true->eW P t=some n)/\(g=false->n=1)/\∃q,gY H (gv ac e) n g=some q/\v=q/\H'=H:=by cases g with|true=>simp only[bi,ab1,abv]at c;obtain⟨n,j,e,h1,rfl⟩:=c;simp only[aH,af0,ahW]at he;obtain⟨q,f,rfl,rfl⟩:=he;exact⟨e,n,h1,λ_=>j,aC,_,f,rfl,rfl⟩|false=>simp only[acg,bF,ab1,abv]at c;obtain⟨e,h1,rfl⟩:=c;simp only[aH,af0,ahW]at he;obtain⟨q,f,rfl,rfl⟩:=he;exact⟨e,1,h1,aC,λ_=>rfl,_,f,rfl,rfl⟩
 obtain⟨e,n,h1,h2,h3,q,f,rfl,rfl⟩:=key;have⟨b,hb,r,k,l⟩:=HZ h.I (h.gv h1) hg h2 h3 f;exact bC.val (c:=r) (w':=w) (by simp[i,hb,k,execOp,Instr.loadAt,Instr.sureAddr]) (cI.bK h.I l)
theorem P3{id:ah}{off:Nat}{l:List AV}(h:gF H id off l=some H'):cU l=true:=by unfold gF at h;grind
theorem P4(h:dk P d ρ H w nt ac a){t:TypeId}{x y:Operand}(f:o.op=.store t x y)(g:bL P nt o=some ao)(he:aH ao ac H=some (v,H')):bC P d ρ w (execOp a.eval o) v H':=by
 simp only[bL,f,afN,ab1,ahZ,abv]at g;obtain⟨n,k,s,h1,u,h2,rfl⟩:=g;simp only[aH]at he;have i:=h.gv h1;split at he
 .rename_i id off l;rw[l]at i;split at he
  .split at he
   .rename_i H1 j;obtain⟨rfl,rfl⟩:=he;have⟨b,z,hb,m⟩:=i.l9;have c:=VR.cells (h.gv h2) (HV (P3 j));have⟨p,q,r⟩:=yD h.I j hb c;have e:(a.eval y).cells.size=n:=by have:=aZ.length c;simp at this;omega
    refine⟨undef,_,.inr ⟨?_,rfl⟩,⟨ρ,bZ.refl ρ,VR.ajS ρ,q,r⟩⟩;simp[f,m,k,e,p,execOp,Instr.storeAt,Instr.sureAddr,storeVar,iL]
   grind
  grind
 grind
end
end
section
variable{P:Program}{d:b8}{ρ:aM}{H H':ai}{w:World}{nt:Nat}{ac:az AV}{a:Act}{o:Oper}{ao:bJ}{v:AV}
theorem P5(h:dk P d ρ H w nt ac a){x:Operand}(f:o.op=.nilCheck x)(g:bL P nt o=some ao)(he:aH ao ac H=some (v,H')):bC P d ρ w (execOp a.eval o) v H':=by
 simp only[bL,f,afN,ab1,ahZ,abv]at g;obtain⟨j,h1,rfl⟩:=g;simp only[aH]at he;have e:=h.gv h1;split at he<;>(try cases he)<;>rename_i i<;>rw[i]at e;·have⟨b,z,hb,c⟩:=e.l9;exact bC.val (by simp[f,c,execOp]) (cI.bK h.I (c▸e))
 .have⟨k,l,_,_,c⟩:=e.AQ;exact bC.val (by simp[f,c,execOp]) (cI.bK h.I (c▸e))
 .have⟨b,hb,c⟩:=e.AR;exact bC.val (by simp[f,c,execOp]) (cI.bK h.I (c▸e))
 .have⟨y,_,c⟩:=e.wd;exact bC.val (by simp[f,c,execOp]) (cI.bK h.I (c▸e))
 .have⟨b,hb,c⟩:=e.oY;exact bC.val (by simp[f,c,execOp]) (cI.bK h.I (c▸e))
 have⟨ad,m,c,_⟩:=e.ma;exact bC.val (by simp[f,c,execOp]) (cI.bK h.I (c▸e))
theorem pR(k:IntKind):ck (kc k)=k:=by cases k<;>rfl
theorem ue{j k:IntKind}(h:kc j=kc k):j=k:=by have:=congrArg ck h;grind[pR]
theorem dV(a b:Int):gw a b=(a==b):=by
 cases a with
 |ofNat m=>cases b with|ofNat n=>show ah8 m n=_;rw[ajp];simp;omega|negSucc n=>show false=_;symm;rw[beq_eq_false_iff_ne];intro e;cases e
 |negSucc m=>cases b with|ofNat n=>show false=_;symm;rw[beq_eq_false_iff_ne];intro e;cases e|negSucc n=>show ah8 m n=_;rw[ajp];simp
theorem kR(a b:Int):jJ a b=decide (a<b):=by
 cases a with
 |ofNat m=>cases b with|ofNat n=>show aiu m n=_;rw[ajp];simp[aiu];omega|negSucc n=>show false=_;symm;simp only[decide_eq_false_iff_not,ahU];omega
 |negSucc m=>cases b with|ofNat n=>show true=_;symm;simp only[decide_eq_true_eq,ahU];omega|negSucc n=>show aiu n m=_;rw[ajp];simp[aiu];omega
theorem yH(n:Int)(h1: -9223372036854775808<=n)(h2:n<9223372036854775808):IntKind.i64.wrap n=n:=by unfold IntKind.wrap IntKind.signed IntKind.bits;grind
theorem P6(n:Int)(h1:0<=n)(h2:n<256):IntKind.u8.wrap n=n:=by unfold IntKind.wrap IntKind.signed IntKind.bits;grind
theorem uf(k:IntKind)(n:Int):fX (kc k) n=k.wrap n:=by
 have a:lg (kc k) n=k.wrap n:=by rw[lg,pR]
 unfold fX;split
 .rename_i m c;split
  .rename_i e;have b:k=.i64:=by cases k<;>simp[kc]at c⊢
   subst b;have:m<9223372036854775808:=aim (Nat.lt_succ_self m) (aib e);exact(yH _ (by simp only[ahU];omega) (by simp only[ahU];omega)).symm
  rw[c]at a;exact a
 .rename_i m c;split
  .rename_i e;have b:k=.i64:=by cases k<;>simp[kc]at c⊢
   subst b;have:m<9223372036854775808:=aim (Nat.lt_succ_self m) (aib e);exact(yH _ aa aa).symm
  rw[c]at a;exact a
 .rename_i m c;split
  .rename_i e;have b:k=.u8:=by cases k<;>simp[kc]at c⊢
   subst b;have:m<256:=aim (Nat.lt_succ_self m) (aib e);exact(P6 _ (by simp only[ahU];omega) (by simp only[ahU];omega)).symm
  rw[c]at a;exact a
 omega
theorem sy:∀(a b:List Nat),iG a b=(a==b)|[],[]=>rfl|[],_::_=>rfl|_::_,[]=>rfl|a::l,b::m=>by rw[iG,sy l m];rw[ajp];simp
theorem P7{op:BinOp}{k:IntKind}{x y:Int}{r:AV}(h:fG op (kc k) x y=some r)(a:op≠.shl/\op≠.shr)(t:TypeId)(w:World):∃c,(binOp op t (.int k x) (.int k y)).run P w=.ok c w/\VR ρ r c:=by
 cases op<;>simp only[fG]at h<;>(try cases h)<;>(try(exact absurd rfl a.1))<;>(try(exact absurd rfl a.2));·simp[binOp,Op.intArith,VR,uf]
 .simp[binOp,Op.intArith,VR,uf]
 .simp[binOp,Op.intArith,VR,uf]
 .split at h;·grind
  rename_i b;injection h with h;subst h;simp[b,binOp,Op.intDiv,VR,uf]
 .split at h;·grind
  rename_i b;injection h with h;subst h;simp[b,binOp,Op.intDiv,VR]
 .simp[ai4,binOp,Op.intBits,VR,lg,pR]
 .simp[ai4,binOp,Op.intBits,VR,lg,pR]
 .simp[ai4,binOp,Op.intBits,VR,lg,pR]
 .simp[ai4,binOp,Op.intBits,VR,lg,pR]
 .simp[bool,binOp,Op.intCmp,VR,dV]
 .simp[bool,binOp,Op.intCmp,VR,dV,bne]
 .simp[bool,decide,binOp,Op.intCmp,VR,kR]
 .exact⟨.bool (decide (x<=y)),by simp[binOp,Op.intCmp],by simp only[VR,kR];grind⟩
 .simp[bool,decide,binOp,Op.intCmp,VR,kR]
 exact⟨.bool (decide (y<=x)),by simp[binOp,Op.intCmp],by simp only[VR,kR];grind⟩
theorem DP(op:BinOp)(t:TypeId)(x y:Operand)(k a:IntKind)(m n:Int)(w:World):(eqGuard op t x y (.int k m) (.int a n)).run P w=.ok () w:=by simp[eqGuard]
theorem P8(h:dk P d ρ H w nt ac a){op:BinOp}{t t':TypeId}{x y:Operand}{k:IntKind}(s:o.op=.binOp op t x y t')(hu:P.underlying t=some (.int k))(b:op≠.shl/\op≠.shr)(l:bL P nt o=some ao)(he:aH ao ac H=some (v,H')):bC P d ρ w (execOp a.eval o) v H':=by
 have r:∃e f,ff P nt x=some e/\ff P nt y=some f/\ao=.arith op (kc k) e f:=by simp only[bL,s,gz,hu,afN,ajq]at l;cases op<;>simp only[ab1,ahZ,abv]at l<;>first|(exact absurd rfl b.1)|(exact absurd rfl b.2)|(obtain⟨e,h1,f,h2,h3⟩:=l;exact⟨e,f,h1,h2,h3.symm⟩)
 obtain⟨e,f,h1,h2,rfl⟩:=r;simp only[aH,af0,ahW]at he;obtain⟨q,g,rfl,rfl⟩:=he;have u:=h.gv h1;have z:=h.gv h2;unfold yf at g;split at g
 .rename_i i m j n e1 e2;split at g;·rename_i p;simp only[ah4]at p;have G:i=kc k:=ah5 p.1;have J:j=kc k:=ah5 p.2;rw[e1]at u;rw[e2]at z;have⟨A,K,B⟩:=u.iW;have⟨C,L,D⟩:=z.iW;have:A=k:=ue aa;subst this;have:C=A:=ue aa;subst this;have⟨c,E,F⟩:=P7 (P:=P) (ρ:=ρ) g b t w;exact bC.val (c:=c) (w':=w) (by simp[s,B,D,E,execOp,DP]) (cI.bK h.I F)
  grind
 grind
theorem P9(h:dk P d ρ H w nt ac a){op:BinOp}{t t':TypeId}{x y:Operand}{k:IntKind}(l:o.op=.binOp op t x y t')(hu:P.underlying t=some (.int k))(g:op=.shl\/op=.shr)(s:bL P nt o=some ao)(he:aH ao ac H=some (v,H')):bC P d ρ w (execOp a.eval o) v H':=by
 have p:∃c e,ff P nt x=some c/\ff P nt y=some e/\ao=.shift op c e:=by rcases g with rfl|rfl<;>simp only[bL,l,gz,hu,afN,ajq,ab1,ahZ,abv]at s<;>(obtain⟨c,h1,e,h2,h3⟩:=s;exact⟨c,e,h1,h2,h3.symm⟩)
 obtain⟨c,e,h1,h2,rfl⟩:=p;simp only[aH,af0,ahW]at he;obtain⟨q,b,rfl,rfl⟩:=he;have u:=h.gv h1;have z:=h.gv h2;unfold Au at b;split at b
 .rename_i i m j n e1 e2;rw[e1]at u;rw[e2]at z;have⟨f,r,A⟩:=u.iW;have⟨D,C,B⟩:=z.iW;subst r;rcases g with rfl|rfl;·simp only[abv]at b;subst b;refine bC.val (c:=.int f (f.wrap (m*2^(min n f.bits)))) (w':=w) ?_ (cI.bK h.I (by simp[VR,uf,pR]));simp[execOp,l,A,B,DP,binOp,Op.shift];omega
  simp only[abv]at b;subst b;refine bC.val (c:=.int f (m.fdiv (2^(min n f.bits)))) (w':=w) ?_ (cI.bK h.I (by simp[VR,pR]));simp[execOp,l,A,B,DP,binOp,Op.shift];omega
 grind
end
section
variable{P:Program}{h:b8}{ρ:aM}{H H':ai}{w:World}{nt:Nat}{ac:az AV}{a:Act}{o:Oper}{ao:bJ}{v:AV}
theorem Ic{x y:UInt8}(a:x.toNat=y.toNat):x=y:=UInt8.toNat_inj.1 a
theorem DQ:∀{l m:List UInt8},l.map ajs=m.map ajs->l=m|[],[],_=>rfl|[],_::_,c=>by simp at c|_::_,[],c=>by simp at c|a::l,b::m,c=>by simp only[ah2,aik]at c;rw[Ic c.1,DQ c.2]
theorem Ie(s t:ByteArray):(s.toList==t.toList)=iG (s.data.toList.map ajs) (t.data.toList.map ajs):=by rw[ByteArray.toList_eq,ByteArray.toList_eq,sy,ajp];simp only[beq_iff_eq];grind[DQ]
theorem If:∀(l m:List UInt8),Op.bytesLess l m=oK (l.map ajs) (m.map ajs)
 |[],[]=>rfl
 |_::_,[]=>rfl
 |[],_::_=>rfl
 |a::l,b::m=>by
  simp only[Op.bytesLess,ah2,oK,If l m];have e1:decide (a<b)=aiu a.toNat b.toNat:=by rw[ajp];simp[aiu,UInt8.lt_iff_toNat_lt];omega
  have e2:(a==b)=ah8 a.toNat b.toNat:=by rw[ajp];simp only[beq_iff_eq,Nat.beq_eq];exact⟨λc=>by rw[c],Ic⟩
  grind
theorem DR:∀(l m:List Nat),(oK l m||iG l m)=!oK m l
 |[],[]=>rfl
 |_::_,[]=>rfl
 |[],_::_=>rfl
 |a::l,b::m=>by
  simp only[oK,iG];have:=DR l m;rcases Nat.lt_trichotomy a b with d|d|d
  .have e1:aiu a b=true:=by simp[aiu];omega
   have e2:aiu b a=false:=by rw[Bool.eq_false_iff];simp[aiu];omega
   have c:ah8 b a=false:=by rw[Bool.eq_false_iff];simp;omega
   grind
  .subst d;have e1:aiu a a=false:=by rw[Bool.eq_false_iff];simp[aiu]
   simp_all
  have e1:aiu a b=false:=by rw[Bool.eq_false_iff];simp[aiu];omega
  have e2:aiu b a=true:=by simp[aiu];omega
  have c:ah8 a b=false:=by rw[Bool.eq_false_iff];simp;omega
  grind
theorem Qa(s t:ByteArray):(s++t).data.toList=s.data.toList++t.data.toList:=by rfl
theorem Qb(op:BinOp)(t:TypeId)(x y:Operand)(m n:ByteArray)(w:World):(eqGuard op t x y (.string m) (.string n)).run P w=.ok () w:=by simp[eqGuard]
theorem Qc(F:dk P h ρ H w nt ac a){op:BinOp}{t t':TypeId}{x y:Operand}(n:o.op=.binOp op t x y t')(hu:P.underlying t=some .string)(p:bL P nt o=some ao)(he:aH ao ac H=some (v,H')):bC P h ρ w (execOp a.eval o) v H':=by
 have k:∃f g,ff P nt x=some f/\ff P nt y=some g/\ao=.kr op f g:=by cases op<;>simp only[bL,n,gz,hu,afN,ajq,ab1,ahZ,abv]at p<;>(obtain⟨f,h1,g,h2,h3⟩:=p;exact⟨f,g,h1,h2,h3.symm⟩)
 obtain⟨f,g,h1,h2,rfl⟩:=k;simp only[aH,af0,ahW]at he;obtain⟨q,b,rfl,rfl⟩:=he;have r:=F.gv h1;have u:=F.gv h2;unfold vL at b;split at b
 .rename_i l m e1 e2;rw[e1]at r;rw[e2]at u;have⟨s,hs,z⟩:=r.mP;have⟨i,j,A⟩:=u.mP;have d:Op.bytesLess s.toList i.toList=oK l m:=by rw[ByteArray.toList_eq,ByteArray.toList_eq,If,hs,j]
  have e:(s.toList==i.toList)=iG l m:=by rw[Ie,hs,j]
  have key:∃c,(Op.stringOp op s i).run P w=.ok c w/\VR ρ q c:=by
   have D:s.size=l.length:=by rw[<-hs,aig,aiT];rfl
   have E:i.size=m.length:=by rw[<-j,aig,aiT];rfl
   cases op<;>simp only at b<;>(try cases b)
   .split at b
    .rename_i hb;injection b with b;subst b;refine⟨.string (s++i),?_,?_⟩
     .simp only[Op.stringOp];rw[an];·rfl
      have:IntKind.i64.max=9223372036854775807:=bx;rw[this];omega
     simp only[VR];rw[Qa,ail,hs,j]
    cases b
   .exact⟨_,rfl,by simp only[VR];exact e.symm⟩
   .exact⟨_,rfl,by simp only[VR];rw[e]⟩
   .exact⟨_,rfl,by simp only[VR];exact d.symm⟩
   .exact⟨_,rfl,by simp only[VR];rw[d,e,DR]⟩
   .exact⟨_,rfl,by simp only[VR];rw[d,e,DR];simp⟩
   exact⟨_,rfl,by simp only[VR];rw[d]⟩
  have⟨c,B,C⟩:=key;exact bC.val (c:=c) (w':=w) (by simp[execOp,n,z,A,Qb,binOp,B]) (cI.bK F.I C)
 grind
theorem Qd(m:dk P h ρ H w nt ac a){op:UnOp}{t:TypeId}{x:Operand}(g:o.op=.unOp op t x)(j:bL P nt o=some ao)(he:aH ao ac H=some (v,H')):bC P h ρ w (execOp a.eval o) v H':=by
 simp only[bL,g,afN,ab1,ahZ,abv]at j;obtain⟨l,h1,rfl⟩:=j;simp only[aH,af0,ahW]at he;obtain⟨q,c,rfl,rfl⟩:=he;have e:=m.gv h1;unfold Av at c;split at c;·rename_i k n e1;rw[e1]at e;have⟨d,i,f⟩:=e.iW;subst i;injection c with c;subst c;exact bC.val (c:=.int d (d.wrap (0 - n))) (w':=w) (by simp[g,f,execOp,Op.unary,Op.intArith]) (cI.bK m.I (by simp[VR,uf]))
 .rename_i k n e1;rw[e1]at e;have⟨d,i,f⟩:=e.iW;subst i;simp only[fG,pR,abv]at c;subst c;refine bC.val (c:=.int d (d.wrap (ai4 d.bits (if d.signed then -1 else d.max)^^^ai4 d.bits n).toNat)) (w':=w) (by simp[g,f,execOp,Op.unary,Op.intBits]) (cI.bK m.I ?_);simp[VR,lg,pR]
 .rename_i b e1;rw[e1]at e;have f:=e.oX;injection c with c;subst c;exact bC.val (c:=.bool (!b)) (w':=w) (by simp[g,f,execOp,Op.unary]) (cI.bK m.I (by rfl))
 grind
theorem Qe(i:dk P h ρ H w nt ac a){t:TypeId}{x:Operand}(f:o.op=.makeInterface t x)(b:bL P nt o=some ao)(he:aH ao ac H=some (v,H')):bC P h ρ w (execOp a.eval o) v H':=by
 simp only[bL,f,afN,ab1]at b;have⟨d,hd,b⟩:=b;have key:(∀m,d≠.interface m)/\∃c,ff P nt x=some c/\ao=.mG t c:=by cases d<;>simp only[bi,acg,bF,ab1,ahZ,abv]at b<;>first|(cases b;done)|(obtain⟨c,h1,h2⟩:=b;exact⟨(λm e=>by cases e),c,h1,h2.symm⟩)
 obtain⟨g,c,h1,rfl⟩:=key;obtain⟨rfl,rfl⟩:=he;refine bC.val (c:=.iface t (a.eval x)) (w':=w) ?_ (cI.bK i.I (by simp only[VR];exact⟨trivial,i.gv h1⟩));simp only[execOp,f,Instr.makeInterface,Sem.run_bind,bQ hd,Result.andThen_ok];rfl
theorem Qf(d:dk P h ρ H w nt ac a){f:FuncId}{x y:Array Operand}(b:o.op=.makeFunc (.func f) x y)(c:bL P nt o=some ao)(he:aH ao ac H=some (v,H')):bC P h ρ w (execOp a.eval o) v H':=by simp only[bL,b,sq,afN,ab1,ahZ,abv]at c;obtain⟨l,h1,m,h2,rfl⟩:=c;obtain⟨rfl,rfl⟩:=he;refine bC.val (c:=.func (.func f) (x.map a.eval) (y.map a.eval)) (w':=w) (by simp[b,execOp,Instr.makeFunc]) (cI.bK d.I ?_);simp only[VR,Array.toList_map];exact⟨trivial,wm d.E d.I h1,wm d.E d.I h2⟩
theorem Qg(g:dk P h ρ H w nt ac a){t:TypeId}(b:o.op=.makeMap t none)(c:bL P nt o=some ao)(he:aH ao ac H=some (v,H')):bC P h ρ w (execOp a.eval o) v H':=by simp only[bL,b,ahZ,abv]at c;subst c;obtain⟨rfl,rfl⟩:=he;have⟨d,e,f⟩:=g.I.alloc (o:=.map [] 0) (ob:=.map #[] 0) (0,0) (by trivial) aC rfl (by trivial);exact bC.val (c:=.map (some w.heap.size)) (w':={w with heap:=w.heap.push (.map #[] 0)}) (by simp[b,execOp,Instr.makeMap]) ⟨_,d,by simp[VR,aM.eA],e,f⟩
theorem ug{l:List AV}{cs:Array Value}(hl:aZ ρ l cs.toList){t:TypeId}{g:Bool}{off s:Nat}(hg:mN P t=some g)(hs:eW P t=some s){q:AV}(a:pJ g l off s=some q):∃c,(part t cs off).run P w=.ok c w/\VR ρ q c:=by unfold pJ at a;cases g with|true=>simp only[bi,abv]at a;subst a;simp[hg,hs,hl,part,yG,iL,VR,Array.toList_extract,List.extract_eq_drop_take,aZ.take,aZ.drop]|false=>simp only[acg,bF,List.head?_drop]at a;have⟨c,h1,h2⟩:=aZ.get hl off q a;simp_all[part,yG]
theorem Qh(A:dk P h ρ H w nt ac a){t:TypeId}{x:Operand}{i:Nat}(k:o.op=.field t x i)(b:bL P nt o=some ao)(he:aH ao ac H=some (v,H')):bC P h ρ w (execOp a.eval o) v H':=by
 simp only[bL,k,afN,ab1]at b;have⟨d,hd,b⟩:=b;split at b
 .simp only[ab1,ahZ,abv]at b;obtain⟨f,n,g,hg,s,hs,z,h1,rfl⟩:=b;simp only[aH]at he;have m:=A.gv h1;split at he;·rename_i l p;simp only[af0,ahW]at he;obtain⟨q,r,rfl,rfl⟩:=he;rw[p]at m;have⟨cs,e,u⟩:=m.rm;have⟨c,y,j⟩:=ug (P:=P) (w:=w) e hg hs r;exact bC.val (c:=c) (w':=w) (by simp[execOp,k,Instr.field,bQ hd,n,u,asAgg,y]) (cI.bK A.I j)
  grind
 grind
theorem Qi(p:dk P h ρ H w nt ac a){t:TypeId}{x:Operand}{i:Nat}(g:o.op=.fieldAddr t x i)(c:bL P nt o=some ao)(he:aH ao ac H=some (v,H')):bC P h ρ w (execOp a.eval o) v H':=by
 simp only[bL,g,afN,ab1]at c;have⟨d,hd,c⟩:=c;split at c
 .simp only[ab1]at c;have⟨f,k,s,hs,c⟩:=c;split at c;·grind
  rename_i e;simp only[ab1,ahZ,abv]at c;obtain⟨n,h1,rfl⟩:=c;simp only[aH]at he;have j:=p.gv h1;split at he;·rename_i id off l;obtain⟨rfl,rfl⟩:=he;rw[l]at j;have⟨b,z,hb,m⟩:=j.l9;refine bC.val (c:=.pointer (some ⟨b,z+off+f.offset,none⟩)) (w':=w) ?_ (cI.bK p.I (by simp[hb,VR,ajn]));simp[execOp,g,Instr.fieldAt,bQ hd,k,m,Instr.sureAddr,fieldPlace,iL hs,e,su]
  grind
 grind
theorem Qj(r:dk P h ρ H w nt ac a){x:Operand}{i:Nat}(j:o.op=.extract x i)(e:bL P nt o=some ao)(he:aH ao ac H=some (v,H')):bC P h ρ w (execOp a.eval o) v H':=by
 simp only[bL,j,afN,ab1,ahZ,abv]at e;obtain⟨n,h1,rfl⟩:=e;simp only[aH]at he;have f:=r.gv h1;split at he
 .rename_i l k;simp only[af0,ahW]at he;obtain⟨q,g,rfl,rfl⟩:=he;rw[k]at f;have⟨cs,b,p⟩:=f.PU;have d:∀(l:List AV)(i:Nat),nI l i=l[i]?:=by intro l;induction l with|nil=>intro i;simp[nI]|cons y l m=>intro i;cases i with|zero=>simp[nI]|succ i=>simp[nI,m]
  rw[d]at g;have⟨c,e1,e2⟩:=aZ.get b i q g;exact bC.val (c:=c) (w':=w) (by simp_all[execOp,Instr.extract]) (cI.bK r.I e2)
 grind
end
section
variable{P:Program}{f:b8}{ρ:aM}{H H':ai}{w:World}{nt:Nat}{ac:az AV}{a:Act}{o:Oper}{ao:bJ}{v:AV}
theorem Qk(h:dk P f ρ H w nt ac a){t:TypeId}{x i:Operand}(q:o.op=.indexAddr t x i)(c:bL P nt o=some ao)(he:aH ao ac H=some (v,H')):bC P f ρ w (execOp a.eval o) v H':=by
 simp only[bL,q,afN,ab1]at c;have⟨d,hd,c⟩:=c;split at c
 .rename_i n e;simp only[ab1,ahZ,abv]at c;obtain⟨s,hs,y,h1,A,h2,rfl⟩:=c;simp only[aH]at he;have l:=h.gv h1;have m:=h.gv h2;split at he
  .rename_i id off k j r hj;split at he
   .rename_i g;obtain⟨rfl,rfl⟩:=he;rw[r]at l;rw[hj]at m;have⟨b,z,hb,u⟩:=l.l9;have⟨B,_,hi⟩:=m.iW;have p:j<n:=by simpa[aiu,Nat.succ_le_iff]using g
    refine bC.val (c:=.pointer (some ⟨b,z+off+j*s,none⟩)) (w':=w) ?_ (cI.bK h.I (by simp[hb,VR,ajn]));simp[execOp,q,Instr.indexAt,hi,asIntOf,bQ hd,u,Instr.sureAddr,iL hs,su];omega
   grind
  grind
 .simp only[ab1,ahZ,abv]at c;obtain⟨s,hs,y,h1,A,h2,rfl⟩:=c;simp only[aH]at he;have l:=h.gv h1;have m:=h.gv h2;split at he
  .rename_i id off len cap ex k j r hj;split at he
   .rename_i g;obtain⟨rfl,rfl⟩:=he;rw[r]at l;rw[hj]at m;have⟨ad,D,u,E,F,G,b,z,hb,C,J⟩:=l.ma;have⟨B,_,hi⟩:=m.iW;have p:j<len:=by simpa[aiu,Nat.succ_le_iff]using g
    have:=C aa;subst this;refine bC.val (c:=.pointer (some ⟨b,z+off+j*s,none⟩)) (w':=w) ?_ (cI.bK h.I (by simp[hb,VR,ajn]));simp[execOp,q,Instr.indexAt,hi,asIntOf,bQ hd,u,iL hs,su];omega
   grind
  grind
 grind
theorem Ig:∀(l:List Nat)(i:Nat),yg l i=l[i]?|[],i=>by rfl|a::l,0=>by rfl|a::l,i+1=>by simp[yg,Ig l i]
theorem Ql(h:dk P f ρ H w nt ac a){t:TypeId}{x i:Operand}(l:o.op=.index t x i)(b:bL P nt o=some ao)(he:aH ao ac H=some (v,H')):bC P f ρ w (execOp a.eval o) v H':=by
 simp only[bL,l,afN,ab1]at b;have⟨d,hd,b⟩:=b;split at b
 .simp only[ab1,ahZ,abv]at b;obtain⟨C,h1,D,h2,rfl⟩:=b;simp only[aH]at he;have m:=h.gv h1;have p:=h.gv h2;split at he
  .rename_i s k j y hj;simp only[af0,ahW]at he;obtain⟨q,⟨n,c,rfl⟩,rfl,rfl⟩:=he;rw[y]at m;rw[hj]at p;have⟨t',z,A⟩:=m.mP;have⟨E,_,hi⟩:=p.iW;rw[Ig,<-z,aiw,af0]at c;have⟨u,hu,c⟩:=c;have g:t'[j]?=some u:=by
    have:j<t'.size:=by have:=aiF.1 hu;have⟨r,_⟩:=this;simpa using r
    rw[getElem?_pos t' j this];have e:=aiF.1 hu;have⟨r,B⟩:=e;rw[<-B];rfl
   refine bC.val (c:=.int .u8 u.toNat) (w':=w) ?_ (cI.bK h.I (by simp[c,VR,kc]));simp[execOp,l,Instr.index,hi,asIntOf,bQ hd,A,g]
  grind
 grind
theorem AS{x:AV}{c:Value}(e:VR ρ x c){y b n:Nat}(h:lL x y=some n)(g:y<=b)(code:Go.BoundsCode)(w:World):(Instr.sliceBound c b code).run P w=.ok n w/\n<=y:=by
 unfold lL at h;split at h
 .rename_i k i;split at h;·rename_i a;injection h with h;subst h;obtain⟨j,_,rfl⟩:=e.iW;have d:i<=y:=aib a;simp[Instr.sliceBound,asIntOf];omega
  grind
 grind
theorem Qm{a:Type}(c:Prop) [Decidable c](x y:a):(if c then some x else some y)=some (if c then x else y):=by grind
theorem Ih(h:dk P f ρ H w nt ac a){lo hi d:Option Operand}{o p q:Option aJ}(h1:oQ P nt lo=some o)(h2:oQ P nt hi=some p)(h3:oQ P nt d=some q){len cap c m e l:Nat}(e1:jq ac q cap cap=some m)(e2:jq ac p len m=some e)(A:jq ac o 0 e=some l)(r:cap<=c)(u:d.isSome=true->hi.isSome=true)(E:d=none->hi=none->len<=cap)(b:Bool):(Instr.sliceBounds b len c (lo.map a.eval) (hi.map a.eval) (d.map a.eval)).run P w=.ok (l,e,if d.isSome then m else c) w/\l<=e/\(e<=m)/\m<=cap/\(d=none->m=cap):=by
 have D:∀{x:Option Operand}{B:Option aJ},oQ P nt x=some B->(x=none/\B=none)\/∃y g,x=some y/\B=some g/\VR ρ (gv ac g) (a.eval y):=by intro x B C;cases x with|none=>simp only[oQ,abv]at C;exact .inl ⟨rfl,C.symm⟩|some y=>simp only[oQ,af0]at C;obtain⟨g,J,rfl⟩:=C;exact .inr ⟨y,g,rfl,rfl,h.gv J⟩
 have K:∃k,(match d.map a.eval with|some v=>Instr.sliceBound v c (if b then .slice3Acap else .slice3Alen)|none=>pure c:Sem Nat).run P w=.ok k w/\(k=if d.isSome then m else c)/\m<=cap/\m<=k/\(d=none->m=cap):=by
  rcases D h3 with⟨rfl,rfl⟩|⟨y,g,rfl,rfl,n⟩;·simp only[jq,abv]at e1;subst e1;exact⟨c,aC,aC,afM _,r,λ_=>rfl⟩
  simp only[jq]at e1;have⟨i,j⟩:=AS (P:=P) n e1 r (if b then .slice3Acap else .slice3Alen) w;exact⟨m,by simpa using i,aC,j,afM _,aC⟩
 have⟨k,M,N,F,s,t⟩:=K;have G:∃code,e<=m/\((match hi.map a.eval,d.map a.eval with|some v,some _=>Instr.sliceBound v k .slice3B|some v,none=>Instr.sliceBound v k code|none,none=>pure len|none,some _=>stuck "Slice: max without high" :Sem Nat).run P w=.ok e w)/\code=(if b then .sliceAcap else .sliceAlen):=by
  refine⟨if b then .sliceAcap else .sliceAlen,?_⟩;rcases D h2 with⟨rfl,rfl⟩|⟨y,g,rfl,rfl,n⟩;·simp only[jq,abv]at e2;subst e2;cases d with|none=>refine⟨?_,aC,rfl⟩;rw[t rfl];exact E rfl rfl|some y=>simp at u
  simp only[jq]at e2;cases d with|none=>have⟨i,j⟩:=AS (P:=P) n e2 s (if b then .sliceAcap else .sliceAlen) w;exact⟨j,by simpa using i,rfl⟩|some z=>have⟨i,j⟩:=AS (P:=P) n e2 s .slice3B w;exact⟨j,by simpa using i,rfl⟩
 obtain⟨code,L,O,rfl⟩:=G;have I:l<=e/\(match lo.map a.eval with|some v=>Instr.sliceBound v e (if d.isSome then .slice3C else .sliceB)|none=>pure 0:Sem Nat).run P w=.ok l w:=by
  rcases D h1 with⟨rfl,rfl⟩|⟨y,g,rfl,rfl,n⟩;·simp only[jq,abv]at A;subst A;exact⟨aa,aC⟩
  simp only[jq]at A;have⟨i,j⟩:=AS (P:=P) n A (afM _) (if d.isSome then .slice3C else .sliceB) w;exact⟨j,by simpa using i⟩
 refine⟨?_,I.1,L,F,t⟩;cases d<;>cases hi<;>cases lo<;>simp_all[Instr.sliceBounds]
theorem Qn(i:bo P f ρ H w){id:ah}{b z e s:Nat}(hb:ρ id=some (b,z))(h:pN H id e=true)(hs:eW P e=some s):(ρ.k b).2=s:=by
 unfold pN at h;split at h
 .rename_i c n m l aK fz hi;have he:=ah5 h;subst he;have a:H.get id≠.none:=by rw[hi];simp
  have⟨o,p,j,e1,_,g,d⟩:=i.aE a;rw[hb]at e1;injection e1 with e1;injection e1 with e1 e2;subst e1;subst e2;have:=i.iJ id b z j a hb g;rw[hi]at this d;cases j<;>simp only[OR]at d;simp only[eP]at this;rw[this];simp[hs]
 grind
theorem Qo(h:dk P f ρ H w nt ac a){t:TypeId}{x:Operand}{lo hi p:Option Operand}(E:o.op=.slice t x lo hi p)(c:bL P nt o=some ao)(he:aH ao ac H=some (v,H')):bC P f ρ w (execOp a.eval o) v H':=by
 simp only[bL,E,afN,ab1]at c;have⟨d,hd,c⟩:=c;split at c
 .rename_i e;split at c;·cases c
  rename_i ag;simp only[ab1]at c;have⟨s,hs,c⟩:=c;split at c;·cases c
  simp only[ab1,ahZ,abv]at c;obtain⟨ox,h1,L,h2,av,h3,aw,r,rfl⟩:=c;simp only[aH]at he;have C:=h.gv h1;have A:p.isSome=true->hi.isSome=true:=λh=>by cases hi<;>simp_all
  split at he;·rename_i F;simp only[afN,ab1,abv,ahW]at he;obtain⟨m,e1,G,e2,l,u,rfl,rfl⟩:=he;rw[F]at C;have J:=C.lj;have⟨K,W,X,Y,R⟩:=Ih h h2 h3 r e1 e2 u (afM 0) A (λ_ _=>afM _) true;have M:m=0:=aa;have N:G=0:=aa;have O:l=0:=aa;subst M;subst N;subst O;refine bC.val (c:=.slice none 0 0) (w':=w) ?_ (cI.bK h.I (by simp[VR]));simp only[execOp,E,Instr.sliceAt,Sem.run_bind,bQ hd,Result.andThen_ok,J,Instr.slice,K,iL hs];cases p<;>simp
  .rename_i id off len cap ex F;simp only[afN,ab1,abv,ahW]at he;have⟨m,e1,G,e2,l,u,he⟩:=he;split at he;case isFalse=>cases he
   rename_i j;simp only[abv,ahW]at he;obtain⟨rfl,rfl⟩:=he;rw[F]at C;have⟨ad,D,J,Z,q2,S,b,z,hb,T,q5⟩:=C.ma;have⟨K,W,X,Y,R⟩:=Ih h h2 h3 r e1 e2 u q2 A (λ_ _=>Z) true;refine bC.val (c:=.slice (some (if(if p.isSome then m else D)=l then ad else ad.add (l*s))) (G - l) ((if p.isSome then m else D) - l)) (w':=w) ?_ (cI.bK h.I ?_);·simp only[execOp,E,Instr.sliceAt,Sem.run_bind,bQ hd,Result.andThen_ok,J,Instr.slice,K,iL hs];simp only[aip];rw[Qm];simp
   simp only[VR];cases p with
   |none=>
    have:=R rfl;subst this;simp only[oQ,abv]at r;subst r;refine⟨trivial,aa,by simp;omega,λg=>?_,b,z,hb,λk=>?_,λg=>?_⟩;rotate_left 2
    .simp only[Option.isSome_none,Bool.or_false,acg,bF]at g j⊢;subst g;have V:=q5 rfl;simp only[Bool.false_or,ai6,Nat.beq_eq_true_eq,Bool.false_and,acg,bF]at j⊢;rcases j with h0|h0
     .have h0:l=0:=by cases B:L with|none=>rw[B]at u;simpa[jq]using u.symm|some q=>rw[B]at h0;simp at h0
      subst h0;simpa using V
     have Q:=Qn h.I hb h0 hs;rw[Q]at V⊢;have:l*s+(D - l)*s=D*s:=by rw[<-ajA];congr 1;omega
     omega
    .simp at g⊢;rw[S g]
    simp only[Option.isSome_none,acg,bF]at k⊢;have n:=T aa;subst n;rw[an aa,an (by intro i;simp only[ah4,decide_eq_true_eq]at i;have:=S i.1;omega),su,ajn]
   |some y=>simp only[oQ,af0]at r;obtain⟨oy,_,rfl⟩:=r;refine⟨trivial,aa,aC,λ_=>by simp,b,z,hb,λk=>?_,λh=>by simp at h⟩;simp only[Option.isSome_some,bi]at k⊢;have n:=T aa;subst n;rw[an aa,an (by intro i;simp only[ah4,decide_eq_true_eq]at i;omega),su,ajn]
  cases he
 grind
end
section
variable{P:Program}{f:b8}{ρ:aM}{H H':ai}{w:World}{nt:Nat}{ac:az AV}{a:Act}{o:Oper}{ao:bJ}{v:AV}
theorem uh{c:Call}{b:Builtin}(e:o.op=.call c)(hb:c.callee=.builtin b)(w:World):∃d,(execOp a.eval o).run P w=(builtin b c.argTypes o.type d (c.args.map a.eval)).run P w:=by exact⟨_,by simp only[execOp,e,resolve,hb,Sem.run_bind,Sem.run_pure,Result.andThen_ok,invoke];rfl⟩
theorem VR.goInt(ρ:aM)(n:Nat):VR ρ (.int 3 (.ofNat n)) (goInt n):=by trivial
theorem cr.length:∀{l:List aW}{m:List MapEntry},cr ρ l m->l.length=m.length|[],[],_=>rfl|_::_,_::_,h=>by simp[cr.length h.2.2.2]|[],_::_,h=>by trivial|_::_,[],h=>by trivial
theorem sA(d:bo P f ρ H w){id:ah}{es:List aW}{a:Nat}(g:H.get id=.map es a){b:Nat}(hb:ρ id=some (b,0)):∃bB:Array MapEntry,w.heap[b]?=some (.map bB a)/\cr ρ es bB.toList:=by have⟨j,x,h,e,hl,i,c⟩:=d.aE (i:=id) (by grind);rw[hb]at e;injection e with e;injection e with e1 e2;subst e1;rw[g]at c;cases h<;>simp only[OR]at c;grind
theorem AT(c:bo P f ρ H w){id:ah}{es:List aW}{a:Nat}(h:H.get id=.map es a){b:Nat}(hb:ρ id=some (b,0)){bB:Array MapEntry}{k:Nat}(i:w.heap[b]?=some (.map bB k)):kB bB k:=by have⟨j,x,l,e,hl,d,g⟩:=c.aE (i:=id) (by grind);grind[OR]
theorem cX.length:∀{l:List aW}{m:List MapEntry},cX ρ l m->l.length=m.length|[],[],_=>rfl|_::_,_::_,h=>by simp[cX.length h.2.2]|[],_::_,h=>by trivial|_::_,[],h=>by trivial
theorem Qp(d:bo P f ρ H w){id:ah}{es:List aW}(g:H.get id=.cS es){b:Nat}(hb:ρ id=some (b,0)):∃(bB:Array MapEntry)(a:Nat)(l:List MapEntry),w.heap[b]?=some (.map bB a)/\l.Perm bB.toList/\cX ρ es l:=by have⟨j,x,h,e,hl,i,c⟩:=d.aE (i:=id) (by grind);rw[hb]at e;injection e with e;injection e with e1 e2;subst e1;rw[g]at c;cases h<;>simp only[OR]at c;grind
theorem oZ{b:Nat}{bB:Array MapEntry}{a:Nat}(h:w.heap[b]?=some (.map bB a)):(getObj b).run P w=.ok (.map bB a) w:=by simp[h,getObj,Sem.run]
theorem Qq(h:dk P f ρ H w nt ac a){c:Call}(B:o.op=.call c)(hb:c.callee=.builtin .len)(i:bL P nt o=some ao)(he:aH ao ac H=some (v,H')):bC P f ρ w (execOp a.eval o) v H':=by
 simp only[bL,B,hb,afN,ab1]at i;have⟨t,n,d,hd,i⟩:=i;have⟨q,e⟩:=uh (P:=P) (a:=a) B hb w;split at i;all_goals(try(cases i;done))
 all_goals
  simp only[ab1,ahZ,abv]at i;obtain⟨x,⟨C,y,z⟩,rfl⟩:=i;have p:(c.args.map a.eval)[0]?=some (a.eval C):=by simp[y]
  have j:=h.gv z;simp only[aH]at he;split at he<;>(try(cases he;done))<;>rename_i D<;>rw[D]at j
 .obtain⟨rfl,rfl⟩:=he;have⟨t',A,g⟩:=j.mP;refine bC.val (c:=goInt t'.size) (w':=w) ?_ (cI.bK h.I ?_);·rw[e];simp[builtin,Builtin.len_,n,p,bQ hd,g]
  rw[<-A,aig,aiT];exact VR.goInt ρ t'.size
 .simp only[abv,ahW]at he;obtain⟨rfl,rfl⟩:=he;have⟨ad,F,g,_⟩:=j.ma;refine bC.val (c:=goInt _) (w':=w) ?_ (cI.bK h.I (VR.goInt ρ _));rw[e];simp[builtin,Builtin.len_,n,p,bQ hd,g]
 .simp only[abv,ahW]at he;obtain⟨rfl,rfl⟩:=he;have g:=j.lj;refine bC.val (c:=goInt 0) (w':=w) ?_ (cI.bK h.I (VR.goInt ρ 0));rw[e];simp[builtin,Builtin.len_,n,p,bQ hd,g]
 .simp only[abv,ahW]at he;obtain⟨rfl,rfl⟩:=he;have g:=j.sw;refine bC.val (c:=goInt 0) (w':=w) ?_ (cI.bK h.I (VR.goInt ρ 0));rw[e];simp[builtin,Builtin.len_,n,p,bQ hd,g]
 split at he
 .rename_i es m r;simp only[abv,ahW]at he;obtain⟨rfl,rfl⟩:=he;have⟨b,k,g⟩:=j.oY;have⟨bB,s,u⟩:=sA h.I r k;refine bC.val (c:=goInt bB.size) (w':=w) ?_ (cI.bK h.I ?_);·rw[e];simp[builtin,Builtin.len_,n,p,bQ hd,g,oZ s]
  rw[cr.length u,aiT];exact VR.goInt ρ bB.size
 .rename_i es r;simp only[abv,ahW]at he;obtain⟨rfl,rfl⟩:=he;have⟨b,k,g⟩:=j.oY;have⟨bB,m,l,s,u,E⟩:=Qp h.I r k;refine bC.val (c:=goInt bB.size) (w':=w) ?_ (cI.bK h.I ?_);·rw[e];simp[builtin,Builtin.len_,n,p,bQ hd,g,oZ s]
  rw[cX.length E,u.length_eq,aiT];exact VR.goInt ρ bB.size
 cases he
theorem Qr(h:dk P f ρ H w nt ac a){c:Call}(m:o.op=.call c)(hb:c.callee=.builtin .cap)(b:bL P nt o=some ao)(he:aH ao ac H=some (v,H')):bC P f ρ w (execOp a.eval o) v H':=by
 simp only[bL,m,hb,afN,ab1]at b;have⟨t,n,d,hd,b⟩:=b;have⟨g,e⟩:=uh (P:=P) (a:=a) m hb w;split at b
 .simp only[ab1,ahZ,abv]at b;obtain⟨x,⟨q,k,l⟩,rfl⟩:=b;have p:(c.args.map a.eval)[0]?=some (a.eval q):=by simp[k]
  have i:=h.gv l;simp only[aH]at he;split at he<;>(try(cases he;done))<;>rename_i r<;>rw[r]at i;·simp only[abv,ahW]at he;obtain⟨rfl,rfl⟩:=he;have⟨ad,u,j,_,_,s,_⟩:=i.ma;have:=s rfl;subst this;refine bC.val (c:=goInt _) (w':=w) ?_ (cI.bK h.I (VR.goInt ρ _));rw[e];simp[builtin,Builtin.cap_,n,p,bQ hd,j]
  simp only[abv,ahW]at he;obtain⟨rfl,rfl⟩:=he;have j:=i.lj;refine bC.val (c:=goInt 0) (w':=w) ?_ (cI.bK h.I (VR.goInt ρ 0));rw[e];simp[builtin,Builtin.cap_,n,p,bQ hd,j]
 grind
theorem Ii(a:Bool):∀(l:List AV)(m:List Value)(x:AV)(c:Value)(r:AV),VR ρ x c->aZ ρ l m->vM a x l=some r->∃q,(m.foldlM (if a then Builtin.max2 else Builtin.min2) c).run P w=.ok q w/\VR ρ r q
 |[],[],x,c,r,t,_,h=>by simp_all[vM,abv]
 |y::l,d::m,x,c,r,t,hl,h=>by
  unfold vM at h;split at h;·grind
  .rename_i k n j b u o;split at h
   .rename_i v;injection o with e1 e2;subst e1;subst e2;obtain⟨e,g,rfl⟩:=t.iW;obtain⟨z,A,rfl⟩:=hl.1.iW;have p:e=z:=ue (by have:=ah5 v;omega);subst p;have i:∃q,((if a then Builtin.max2 else Builtin.min2) (.int e n) (.int e b)).run P w=.ok q w/\VR ρ (.int k (if a then(if jJ n b then b else n)else(if jJ b n then b else n))) q:=by
     cases a;·refine⟨.int e (if b<n then b else n),by simp[Builtin.min2],?_⟩;simp[VR,g,kR]
     refine⟨.int e (if b>n then b else n),by simp[Builtin.max2],?_⟩;simp[VR,g,kR]
    have⟨q,B,s⟩:=i;have⟨C,h1,h2⟩:=Ii a _ _ _ _ _ s hl.2 h;simp_all
   grind
  grind
 |[],_::_,_,_,_,_,hl,_=>by trivial
 |_::_,[],_,_,_,_,hl,_=>by trivial
theorem Ij(h:dk P f ρ H w nt ac a){c:Call}{isMax:Bool}(n:o.op=.call c)(hb:c.callee=.builtin (if isMax then .max else .min))(p:bL P nt o=some ao)(he:aH ao ac H=some (v,H')):bC P f ρ w (execOp a.eval o) v H':=by
 have i:∃l,c.args.toList.mapM (ff P nt)=some l/\ao=.mJ isMax l:=by cases isMax<;>simp only[bi,bF,acg]at hb<;>simp only[bL,n,hb,sq,afN,ab1,ahZ,abv]at p<;>(obtain⟨l,h1,h2⟩:=p;exact⟨l,h1,h2.symm⟩)
 obtain⟨l,h1,rfl⟩:=i;have⟨e,j⟩:=uh (P:=P) (a:=a) n hb w;have g:=wm h.E h.I h1;simp only[aH]at he;split at he;·rename_i x b hl;simp only[af0,ahW]at he;obtain⟨q,r,rfl,rfl⟩:=he;rw[hl]at g;have k:(c.args.map a.eval).toList=c.args.toList.map a.eval:=aC;cases s:c.args.toList.map a.eval with|nil=>simp_all|cons d m=>rw[s]at g;have⟨t,y,u⟩:=Ii (P:=P) (w:=w) isMax b m x d q g.1 g.2 r;refine bC.val (c:=t) (w':=w) ?_ (cI.bK h.I u);rw[j];cases isMax;all_goals simp_all[acg,bF,builtin,Builtin.min_,bi,Builtin.max_]
 grind
end
section
variable{P:Program}{b:b8}{ρ:aM}{H H':ai}{w:World}{nt:Nat}{ac:az AV}{a:Act}{o:Oper}{ao:bJ}{v:AV}
theorem yI(a:List AV):∀n,(dY a n).length=n*a.length|0=>by simp[dY]|n+1=>by simp[dY,yI a n,Nat.succ_mul];omega
theorem Ik(a:List AV):∀(n i:Nat),i<n*a.length->(dY a n)[i]?=a[i % a.length]?
 |0,i,h=>by omega
 |n+1,i,h=>by
  simp only[dY];by_cases hi:i<a.length;·simp[hi,aij,Nat.mod_eq_of_lt]
  rw[ajb aa,Ik a n _ (by grind)];simp_all[Nat.mod_eq_sub_mod]
theorem AU{a:List AV}{cs:Array Value}(h:aZ ρ a cs.toList)(n:Nat)(hs:a.length≠0):aZ ρ (dY a n) ((ajQ (n*cs.size)).map (cs[·% cs.size]!)).toList:=by
 have hl:=aZ.length h;simp only[aiT]at hl;refine aZ.DJ (by simp[hl,yI]) ?_;intro i v c e f;have hi:i<n*a.length:=by
  rcases aiU i (n*a.length)with h|h;·exact h
  rw[aiJ (by rw[yI];exact h)]at e;cases e
 rw[Ik a n i hi]at e;have⟨d,hd,g⟩:=aZ.get h _ v e;grind
theorem Il:∀(l:List Value)(cs:Array Value)(off j:Nat),(l.zipIdx j).foldl (λcs(p:Value×Nat)=>cs.setIfInBounds (off+p.2) p.1) cs=wr cs (off+j) l|[],cs,off,j=>rfl|v::l,cs,off,j=>by simp only[List.zipIdx_cons,List.foldl_cons,wr];rw[Il l _ off (j+1)];rfl
theorem DS:∀(off:Nat)(l a e:List AV)(cs d:List Value),qU l off a=some e->aZ ρ l cs->aZ ρ a d->off+d.length<=cs.length/\aZ ρ e (cs.take off++d++cs.drop (off+d.length))
 |0,l,[],e,cs,[],h,hl,_=>by simp_all[qU,abv]
 |0,x::l,v::a,e,c::cs,m::d,h,hl,g=>by
  simp only[qU]at h;split at h;·rename_i i f;injection h with h;subst h;have⟨j,k⟩:=DS 0 l a i cs d f hl.2 g.2;simp_all[ajm,aiY,aiR,aZ,aif,air,List.drop_succ_cons]
  grind
 |off+1,x::l,a,e,c::cs,d,h,hl,g=>by
  simp only[qU]at h;split at h;·rename_i i f;injection h with h;subst h;have⟨j,k⟩:=DS off l a i cs d f hl.2 g;grind[aZ]
  grind
 |off+1,[],a,e,_,_,h,_,_=>by trivial
 |0,[],v::a,e,_,_,h,_,_=>by trivial
 |0,_,[],_,_,_::_,_,_,g=>by trivial
 |0,_,_::_,_,_,[],_,_,g=>by trivial
 |0,_::_,_,_,[],_,_,hl,_=>by trivial
 |_+1,_::_,_,_,[],_,_,hl,_=>by trivial
theorem Qs(l:List Value)(cs:Array Value)(off:Nat)(h:off+l.length<=cs.size):(wr cs off l).toList=cs.toList.take off++l++cs.toList.drop (off+l.length):=by apply List.ext_getElem?;intro j;rw[Array.getElem?_toList,yC l cs off j h];by_cases h1:j<off;all_goals grind
theorem AX(h:dk P b ρ H w nt ac a)(c:Nat->Option (Nat×Nat)):∀(dW:List (Nat×Operand))(l:List (Nat×Nat×aJ))(g r:List AV)(cs:Array Value),dW.mapM (λp=>(c p.1).bind λq=>(ff P nt p.2).map λx=>(q.1,q.2,x))=some l->aZ ρ g cs.toList->lJ ac g l=some r->∃d,Instr.fill c cs (dW.map λp=>(p.1,a.eval p.2))=some d/\aZ ρ r d.toList/\d.size=cs.size
 |[],l,g,r,cs,i,k,hl=>by simp at i;subst i;simp only[lJ,abv]at hl;subst hl;exact⟨cs,rfl,k,rfl⟩
 |p::dW,l,g,r,cs,i,k,hl=>by
  simp only[ajx,afN,ab1,ahZ,abv,af0]at i;obtain⟨t,⟨q,y,x,z,rfl⟩,A,m,rfl⟩:=i;simp only[lJ]at hl;split at hl
  .rename_i e;simp only[ah4,decide_eq_true_eq]at e;have⟨n,e⟩:=e;split at hl
   .rename_i s o;have j:=VR.cells (h.gv z) n;have f:=aZ.length j;simp only[aiT]at f;have⟨u,v⟩:=DS q.1 g (gv ac x).cells s cs.toList (a.eval p.2).cells.toList o k j;simp only[aiT]at u;have B:=Qs (a.eval p.2).cells.toList cs q.1 (by simpa using u);rw[<-B]at v;have⟨d,C,D,E⟩:=AX h c dW A s r _ m v hl;refine⟨d,?_,D,by rw[E,rl]⟩;simp only[ah2,Instr.fill,y];rw[an];·rw[<-Array.foldl_toList,Array.toList_zipIdx];have:=Il (a.eval p.2).cells.toList cs q.1 0;simp only[ajC]at this;rw[this];exact C
    simp;omega
   cases hl
  cases hl
theorem Qt(h:dk P b ρ H w nt ac a){t:TypeId}{dW:Array (Nat×Operand)}(y:o.op=.build t dW)(g:bL P nt o=some ao)(he:aH ao ac H=some (v,H')):bC P b ρ w (execOp a.eval o) v H':=by
 simp only[bL,y,afN,ab1]at g;have⟨z,D,d,hd,g⟩:=g;have⟨zv,m,n,u⟩:=sx D;split at g
 .rename_i fs;simp only[ab1,ahZ,abv]at g;obtain⟨c,B,l,hl,rfl⟩:=g;simp only[aH,af0,ahW]at he;obtain⟨q,⟨r,A,rfl⟩,rfl,rfl⟩:=he;have⟨j,E,F,_⟩:=AX h (λi=>c[i]?) dW.toList l z.cells r zv.cells hl (VR.cells (n ρ) u) A;have e:(fs.mapM λ(f:Field)=>(do pure (f.offset,<-sizeOf f.type):Sem (Nat×Nat))).run P w=.ok c.toArray w:=by
   rw[Array.mapM_eq_mapM_toList];have:∀(k:List Field)(pl:List (Nat×Nat)),k.mapM (λ(f:Field)=>(eW P f.type).map λs=>(f.offset,s))=some pl->(k.mapM λ(f:Field)=>(Prod.mk f.offset<$>sizeOf f.type:Sem (Nat×Nat))).run P w=.ok pl w:=by intro k;induction k with|nil=>intro pl h;simp at h;subst h;simp|cons f k G=>intro pl h;simp only[ajx,afN,ab1,ahZ,abv,af0]at h;obtain⟨_,⟨s,hs,rfl⟩,C,h2,rfl⟩:=h;simp[ajx,iL hs,G C h2]
   simp[this fs.toList c B]
  refine bC.val (c:=.agg j) (w':=w) ?_ (cI.bK h.I (by trivial));simp only[execOp,y,Instr.build,Sem.run_bind,m,Result.andThen_ok,bQ hd,e];simp_all
 .simp only[ab1,ahZ,abv]at g;obtain⟨s,hs,l,hl,rfl⟩:=g;simp only[aH,af0,ahW]at he;obtain⟨q,⟨r,A,rfl⟩,rfl,rfl⟩:=he;have⟨j,E,F,_⟩:=AX h (λi=>some (i*s,s)) dW.toList l z.cells r zv.cells (by grind) (VR.cells (n ρ) u) A;refine bC.val (c:=.agg j) (w':=w) ?_ (cI.bK h.I (by trivial));have:(dW.map λx=>match x with|(i,x)=>(i,a.eval x)).toList=dW.toList.map λp=>(p.1,a.eval p.2):=aC;simp only[execOp,y,Instr.build,Sem.run_bind,m,Result.andThen_ok,bQ hd,iL hs];simp_all
 grind
end
section
variable{P:Program}{f:b8}{ρ:aM}{H H':ai}{w:World}{nt:Nat}{ac:az AV}{a:Act}{o:Oper}{ao:bJ}{v:AV}
theorem Qu(h:dk P f ρ H w nt ac a){t:TypeId}{len:Nat}{dW:Array (Nat×Operand)}(E:o.op=.buildSlice t len dW)(b:bL P nt o=some ao)(he:aH ao ac H=some (v,H')):bC P f ρ w (execOp a.eval o) v H':=by
 simp only[bL,E,afN,ab1]at b;have⟨d,hd,b⟩:=b;split at b
 .rename_i e;simp only[ab1]at b;have⟨s,hs,z,F,b⟩:=b;split at b;·cases b
  rename_i C;simp only[ab1,ahZ,abv]at b;obtain⟨l,hl,rfl⟩:=b;simp only[aH]at he;split at he
  .rename_i r G;split at he
   .rename_i h1;simp only[abv,ahW]at he;obtain⟨rfl,rfl⟩:=he;have⟨zv,j,q,u⟩:=sx F;have k:=VR.cells (q ρ) u;have y:=aZ.length k;simp only[aiT]at y;have c:zv.cells.size=s:=aa;have m:=AU (ρ:=ρ) k len aa;have⟨A,n,J,N⟩:=AX h (λi=>some (i*s,s)) dW.toList l (dY z.cells len) r ((ajQ (len*zv.cells.size)).map (zv.cells[·% zv.cells.size]!)) (by simpa using hl) m G;have⟨K,L,M⟩:=wn h.I J e r.length rfl [];refine bC.val (c:=.slice (some ⟨w.heap.size,0,none⟩) len len) (w':={w with heap:=w.heap.push (.cells (A.toList++[]).toArray e (0,0))}) ?_ ⟨_,K,?_,L,M⟩
    .have:(dW.map λx=>match x with|(i,x)=>(i,a.eval x)).toList=dW.toList.map λp=>(p.1,a.eval p.2):=aC;simp only[execOp,E,Instr.buildSlice,Sem.run_bind,bQ hd,Result.andThen_ok,iL hs,Sem.run_ite];rw[an aa];have D:(if len*s=0 then(Sem.run P (pure #[]) w:Result (Array Value))else Sem.run P (do pure (<-zeroValue e).cells) w)=.ok (if len*s=0 then #[]else zv.cells) w:=by split<;>simp[j]
     by_cases g:len*s=0
     .rw[aG g];simp only[Sem.run_pure,Result.andThen_ok];have B:((ajQ (len*s)).map λx=>(#[]:Array Value)[x %(#[]:Array Value).size]!)=((ajQ (len*zv.cells.size)).map (zv.cells[·% zv.cells.size]!)):=by rw[c,g];simp
      rw[B,this,n];simp[newRow]
     rw[an g];simp only[Sem.run_bind,j,Sem.run_pure,Result.andThen_ok];rw[this];rw[c]at n;rw[c,n];simp[newRow]
    simp only[VR];exact⟨trivial,afM _,afM _,λ_=>trivial,_,_,aM.eA ..,λ_=>by simp,λh=>by cases h⟩
   cases he
  cases he
 grind
theorem Qv(X:Array Value):(X.toList++[]).toArray=X:=aC
theorem sB{n:Nat}(h:dT n=true):n<=70368744177664:=aib h
theorem Qw(h:dk P f ρ H w nt ac a){t:TypeId}{x y:Operand}(O:o.op=.makeSlice t x y)(b:bL P nt o=some ao)(he:aH ao ac H=some (v,H')):bC P f ρ w (execOp a.eval o) v H':=by
 simp only[bL,O,afN,ab1]at b;have⟨d,hd,b⟩:=b;split at b
 .rename_i e;simp only[ab1]at b;have⟨s,hs,z,W,b⟩:=b;split at b;·grind
  simp only[ab1,ahZ,abv]at b;obtain⟨u,A,ox,h1,oy,h2,rfl⟩:=b;simp only[aH]at he;have Q:=h.gv h1;have R:=h.gv h2;split at he
  .rename_i l c hl B;split at he
   .rename_i d9;simp only[ah4]at d9;have⟨⟨C,D⟩,E⟩:=d9;have m:l<=c:=aib C;have T:=sB D;have V:=sB E;obtain⟨rfl,rfl⟩:=he;rw[hl]at Q;rw[B]at R;have⟨k1,ag,X⟩:=Q.iW;have⟨k2,av,Y⟩:=R.iW;have⟨zv,F,G,J⟩:=sx W;have j:=VR.cells (G ρ) J;have k:=aZ.length j;simp only[aiT]at k;have g:zv.cells.size=s:=aa;have n:=AU (ρ:=ρ) j c aa;have⟨Z,q2,q3⟩:=wn h.I n e (c*s) (by simp[k,g,yI]) [];have⟨ti,K,L⟩:=DO A;refine bC.val (c:=.slice (some ⟨w.heap.size,0,none⟩) l c) (w':={w with heap:=w.heap.push (.cells (((ajQ (c*zv.cells.size)).map (zv.cells[·% zv.cells.size]!)).toList++[]).toArray e (0,0))}) ?_ ⟨_,Z,?_,q2,q3⟩
    .have M:IntKind.i64.wrap (aiC l)=l:=yH _ (by simp only[ahU];omega) (by simp only[ahU];omega);have N:IntKind.i64.wrap (aiC c)=c:=yH _ (by simp only[ahU];omega) (by simp only[ahU];omega);have p:¬((ti.bytes:Int)*(c:Int)>2^48):=by
      have e1:(2:Int)^48=281474976710656:=bx;rw[e1,L];have:((u*c:Nat):Int)<=281474976710656:=by rw[Nat.mul_comm];omega
      push_cast at this;omega
     have q:¬((c:Int)<0):=aa;have i:¬((l:Int)<0):=aa;have r:¬((l:Int)>(c:Int)):=aa;simp only[execOp,O,Instr.makeSlice,Sem.run_bind,bQ hd,Result.andThen_ok,X,Y,asInt,asIntOf,Sem.run_pure,wi K,M,N];simp only[p,q,i,r,decide_false,Bool.or_false,acg,bF];rw[Qv];by_cases S:c*s=0;·simp only[run_askRoom,Result.andThen_ok,iL hs,ahX,S,g,newRow,bi,Sem.run_bind,Sem.run_pure,run_newObj];grind
     simp only[run_askRoom,Result.andThen_ok,iL hs,ahX,S,g,newRow,bF,Sem.run_bind,Sem.run_pure,run_newObj,F]
    simp only[VR];exact⟨trivial,m,afM _,λ_=>trivial,_,_,aM.eA ..,λ_=>by rfl,λh=>by grind⟩
   grind
  grind
 grind
theorem Qx(h:dk P f ρ H w nt ac a){t d:TypeId}{x:Operand}(N:o.op=.convert t d x)(i:bL P nt o=some ao)(he:aH ao ac H=some (v,H')):bC P f ρ w (execOp a.eval o) v H':=by
 simp only[bL,N,afN,ab1]at i;have⟨ts,B,td,C,i⟩:=i;split at i
 .rename_i k0 k;simp only[ab1,ahZ,abv]at i;obtain⟨ox,h1,rfl⟩:=i;have A:=h.gv h1;simp only[aH]at he;split at he;·rename_i j n G;obtain⟨rfl,rfl⟩:=he;rw[G]at A;have⟨X,_,J⟩:=A.iW;exact bC.val (c:=.int k (k.wrap n)) (w':=w) (by simp[execOp,N,convert,bQ B,bQ C,J,Conv.intToInt]) (cI.bK h.I (by simp[VR,uf]))
  grind
 .simp only[ab1]at i;have⟨te,L,i⟩:=i;split at i
  .simp only[bi,ab1,ahZ,abv]at i;obtain⟨ox,h1,rfl⟩:=i;have A:=h.gv h1;simp only[aH]at he;split at he;·rename_i G;obtain⟨rfl,rfl⟩:=he;rw[G]at A;have J:=A.lj;exact bC.val (c:=.string .empty) (w':=w) (by simp[execOp,N,convert,bQ B,bQ C,bQ L,J,Conv.bytesToString]) (cI.bK h.I (by rfl))
   .rename_i id off len cap ex G;split at he
    .rename_i l hl;simp only[af0,ahW]at he;obtain⟨bs,bG,rfl,rfl⟩:=he;rw[G]at A;have⟨ad,cp,J,p1,p2,p3,b,z,hb,p4,p5⟩:=A.ma;have y:∀(l:List AV)(m:List Value)(r:List Nat),tV l=some r->aZ ρ l m->m=(r.map aiC).map (Value.int .u8)/\∀n∈r,n<256:=by
      intro l;induction l with
      |nil=>intro m r h1 h2;cases m with|nil=>simp only[tV,abv]at h1;subst h1;simp|cons _ _=>simp[aZ]at h2
      |cons v l K=>
       intro m r h1 h2;cases m with
       |nil=>simp[aZ]at h2
       |cons c m=>
        simp only[aZ]at h2;simp only[tV]at h1;split at h1
        .rename_i n r' e1 e2;injection h1 with h1;subst h1;have⟨g,g'⟩:=K m r' e2 h2.2;unfold CW at e1;split at e1
         .rename_i Y;split at e1
          .rename_i p;injection e1 with e1;subst e1;have⟨X,hk,R⟩:=h2.1.iW;have:X=.u8:=ue (by rw[<-hk];rfl);subst this;have ag:Y<256:=aim (Nat.lt_succ_self Y) (aib p);refine⟨by simp[g,R],λq O=>?_⟩;rcases acT.1 O with e|e;·omega
           exact g' q e
          cases e1
         cases e1
        cases h1
     have E:∃m:List Value,(loadCells ad len).run P w=.ok m.toArray w/\aZ ρ l m:=by
      rcases Nat.eq_zero_or_pos len with Q|Q
      .subst Q;refine⟨[],by simp[loadCells,loadCellsFrom],?_⟩;unfold dE at hl;split at hl;·simp only[fW,abv]at hl;subst hl;simp[aZ]
       cases hl
      have:=p4 aa;subst this;unfold dE at hl;split at hl;·rename_i c m' e' av aK fz hi;obtain⟨b',x',ob,u,p,S,D⟩:=h.I.aE (i:=id) (by rw[hi];simp);rw[hb]at u;injection u with u;injection u with e1 e2;subst e1;subst e2;rw[hi]at D;cases ob with|cells cs el fr=>have⟨q1,q2⟩:=AN D hl;exact⟨_,yB w S (z+off) len (q2 Q),q1⟩|_=>simp[OR]at D
      cases hl
     have⟨m,hm,T⟩:=E;have⟨V,p⟩:=y l m bs bG T;subst V;have M:=run_bytesToString (P:=P) w ad len cp (bs.map aiC) hm;have F:∀(r:List Nat)(s:ByteArray),((r.map aiC).foldl (λr n=>r.push (ajK n.toNat)) s).data.toList=s.data.toList++r.map ajK:=by intro r;induction r with|nil=>intro s;simp|cons n r K=>intro s;simp only[ah2,List.foldl_cons];rw[K];simp[ByteArray.push]
     refine bC.val (c:=.string _) (w':=w) (by simp[execOp,N,convert,bQ B,bQ C,bQ L,J,M];rfl) (cI.bK h.I ?_);simp only[VR];rw[F];simp only[ail,ajy];have:bs.map (ajs∘ajK)=bs:=by
      have W:∀(r:List Nat),(∀n∈r,n<256)->r.map (ajs∘ajK)=r:=by intro r;induction r with|nil=>intro _;rfl|cons n r K=>intro Z;rw[ah2,K (λq O=>Z q (adT _ O))];have:=Z n (acI ..);simp only[Function.comp,UInt8.toNat_ofNat',aik,and_true];omega
      exact W bs p
     simp_all
    grind
   grind
  grind
 grind
theorem Qy(h:dk P f ρ H w nt ac a){x:Operand}{r t:TypeId}{ok:Bool}(s:o.op=.typeAssert x r t ok)(k:bL P nt o=some ao)(he:aH ao ac H=some (v,H')):bC P f ρ w (execOp a.eval o) v H':=by
 simp only[bL,s,afN,ab1]at k;have⟨d,hd,k⟩:=k;have key:(∀m,d≠.interface m)/\∃z l,nJ P t=some z/\ff P nt x=some l/\ao=.typeAssert t z ok l:=by cases d<;>simp only[bi,acg,bF,ab1,ahZ,abv]at k<;>first|(cases k;done)|(obtain⟨z,h0,l,h1,h2⟩:=k;exact⟨(λm e=>by cases e),z,l,h0,h1,h2.symm⟩)
 obtain⟨i,z,l,F,h1,rfl⟩:=key;have⟨zv,n,p,G⟩:=sx F;have A:=h.gv h1;simp only[aH]at he;have q:(Instr.typeAssert .nilIface r t true).run P w=.ok (.tuple #[zv,.bool false]) w:=by simp only[Instr.typeAssert,Sem.run_bind,bQ hd,Result.andThen_ok];cases d<;>first|(exact absurd rfl (i _))|simp[n]
 have j:∀(c:Value)(b:Bool),(Instr.typeAssert (.iface t c) r t b).run P w=.ok (if b then .tuple #[c,.bool true]else c) w:=by intro c b;simp only[Instr.typeAssert,Sem.run_bind,bQ hd,Result.andThen_ok];cases d<;>first|(exact absurd rfl (i _))|simp
 have g:∀(u:TypeId)(c:Value),u≠t->(Instr.typeAssert (.iface u c) r t true).run P w=.ok (.tuple #[zv,.bool false]) w:=by intro u c hu;simp only[Instr.typeAssert,Sem.run_bind,bQ hd,Result.andThen_ok];cases d<;>first|(exact absurd rfl (i _))|simp[hu,n]
 split at he
 .rename_i C;rw[C]at A;have B:=A.yF;split at he;·rename_i d9;subst d9;obtain⟨rfl,rfl⟩:=he;exact bC.val (c:=.tuple #[zv,.bool false]) (w':=w) (by simp[s,B,q,execOp]) (cI.bK h.I (by simp[p,VR,aZ]))
  grind
 .rename_i u J C;rw[C]at A;have⟨y,K,B⟩:=A.wd;split at he;·rename_i hu;have D:u=t:=ah5 hu;subst D;obtain⟨rfl,rfl⟩:=he;refine bC.val (c:=if ok then .tuple #[y,.bool true]else y) (w':=w) (by simp[s,B,j,execOp]) (cI.bK h.I ?_);grind[VR,aZ]
  rename_i hu;split at he;·rename_i d9;subst d9;obtain⟨rfl,rfl⟩:=he;have E:u≠t:=λe=>hu (by subst e;simp);exact bC.val (c:=.tuple #[zv,.bool false]) (w':=w) (by simp[s,B,g,E,execOp]) (cI.bK h.I (by simp[p,VR,aZ]))
  grind
 grind
end
section
variable{P:Program}{b:b8}{ρ:aM}{H H':ai}{w:World}{nt:Nat}{ac:az AV}{a:Act}{o:Oper}{ao:bJ}{v:AV}
structure sC(P:Program)(w:World)(argTypes:Array TypeId)(e:TypeId)(size:Nat)(x:Value)(n:Nat)(m:List Value):Prop where
 run:∀(ty:TypeId)(s:Value)(bN:Option Addr)(sLen sCap:Nat),s=.slice bN sLen sCap->∀sT,argTypes[0]?=some sT->P.underlying sT=some (.slice e)->eW P e=some size->
  (sLen+n<=sCap->∀w',(match bN with|some a=>storeCells (a.add (sLen*size)) m|none=>pure ():Sem Unit).run P w=.ok () w'->
   (Builtin.append_ argTypes ty #[s,x]).run P w=.ok (.slice bN (sLen+n) sCap) w')/\
  (¬sLen+n<=sCap->∀i,P.info? e=some i->(sLen+n)*i.bytes<=70368744177664->sLen+n<=70368744177664->∀z,(∀w,(zeroValue e).run P w=.ok z w)->∀cM:Array Value,(Builtin.firstCells size sLen s).run P w.drew=.ok cM w.drew->
   (Builtin.append_ argTypes ty #[s,x]).run P w=.ok (.slice (some ⟨w.heap.size,0,none⟩) (sLen+n) (grownCap w (sLen+n) sCap e))
     (w.drew.alloc (.cells (cM++m.toArray++Builtin.zeroCells z.cells (grownCap w (sLen+n) sCap e - (sLen+n))) e)))
theorem Im(n:Nat):∀(r c:Nat),256<=c->c<2*n->Builtin.growBy n r c<=2*n
 |0,c,_,h=>by grind[Builtin.growBy]
 |r+1,c,h1,h2=>by
  simp only[Builtin.growBy];split;·omega
  rcases aiU (c+(c+768)/4) (2*n)with h|h;·exact Im n r _ aa h
  omega
theorem Qz{a cM:Nat}(h:cM<a):Builtin.nextslicecap a cM<=2*a:=by grind[Builtin.nextslicecap,Im]
theorem AY{a cM c:Nat}(h:cM<a)(hb:a*c<=70368744177664):¬(Builtin.nextslicecap a cM*c>2^48):=by have h1:=aix c (Qz h);grind
theorem sC.QA{argTypes:Array TypeId}{e v:TypeId}{size n:Nat}{x:Value}{m:List Value}{g:TypeDesc}(q:argTypes[1]?=some v)(d:P.underlying v=some g)(h:∀k,g≠.int k)(c:∀w':World,(Builtin.lenOf x).run P w'=.ok n w')(h1:(Builtin.firstCells size n x).run P w=.ok m.toArray w)(h2:(Builtin.firstCells size n x).run P w.drew=.ok m.toArray w.drew):sC P w argTypes e size x n m:=by
 refine⟨λB s bN j y hs C r hu f=>⟨λa w' de=>?_,λa i hi t A z p cM ef=>?_⟩⟩
 .subst hs;have p:(match g with|.int _=>true|_=>false)=false:=by cases g<;>first|rfl|(exact absurd rfl (h _))
  cases bN with|none=>simp only[Sem.run_pure,Result.ok.injEq,true_and]at de;subst de;simp[Builtin.append_,r,q,bQ hu,iL f,bQ d,p,c,a,h1]|some ad=>simp only at de;simp[Builtin.append_,r,q,bQ hu,iL f,bQ d,p,c,a,h1,de]
 subst hs;have u:(match g with|.int _=>true|_=>false)=false:=by cases g<;>first|rfl|(exact absurd rfl (h _))
 have l:=AY (Nat.lt_of_not_le a) t;have o:¬(((j+n:Nat):Int)>IntKind.i64.max):=by have:IntKind.i64.max=9223372036854775807:=bx;rw[this];omega
 simp only[Builtin.append_,r,q,bQ hu,iL f,bQ d,u,c,a,Sem.run_bind,Result.andThen_ok,Sem.run_pure,acg,bF,List.getElem?_toArray,List.getElem?_cons_zero,ai5,wi hi,o,false_and,l,run_choose,Question.forced,run_askRoom];rw[show({heap:=w.heap,tape:=w.tape,drawn:=w.drawn+1,os:=w.os,output:=w.output}:World)=w.drew from rfl,ef];simp only[Result.andThen_ok,Bool.not_false,bi,h2,p,newRow,Sem.run_bind,run_newObj,Sem.run_pure];rfl
theorem sC.QB{argTypes:Array TypeId}{e A:TypeId}{size n g:Nat}{k F:IntKind}{z:Value}(B:argTypes[1]?=some A)(h:P.underlying A=some (.int k))(r:vW P e=some g)(J:n*g<=70368744177664)(H:n<=70368744177664)(G:∀w,(zeroValue e).run P w=.ok z w)(t:z.cells.size=size):sC P w argTypes e size (.int F (n:Int)) n ((ajQ (n*z.cells.size)).map (z.cells[·% z.cells.size]!)).toList:=by
 have⟨C,c,u⟩:=DO r;have j:IntKind.i64.wrap (n:Int)=n:=yH _ aa aa;have l:¬((n:Int)*(C.bytes:Int)>2^48):=by have e1:(2:Int)^48=281474976710656:=bx;rw[e1,u];have:((n*g:Nat):Int)<=281474976710656:=aa;push_cast at this;omega
 have d:¬((n:Int)<0):=aa;have f:∀w',(if n*size=0 then pure #[]else do pure (Builtin.zeroCells (<-zeroValue e).cells n):Sem (Array Value)).run P w'=.ok ((ajQ (n*z.cells.size)).map (z.cells[·% z.cells.size]!)) w':=by
  intro w';by_cases h0:n*size=0;·rw[aG h0,t,h0];simp
  rw[an h0];simp[G,Builtin.zeroCells]
 refine⟨λK s bN o E hs L D hu m=>⟨λa w' de=>?_,λa i hi v I M x cM ef=>?_⟩⟩;·subst hs;simp only[Builtin.append_,D,B,bQ hu,iL m,bQ h,a,Sem.run_bind,Result.andThen_ok,Sem.run_pure,bi,List.getElem?_toArray,List.getElem?_cons_zero,ai5,asInt,asIntOf,j,d,bF,wi c,l,ahX,ait,acg,f];cases bN with|none=>simp_all|some ad=>simp_all
 subst hs;have p:=AY (Nat.lt_of_not_le a) v;have q:¬(((o+n:Nat):Int)>IntKind.i64.max):=by have:IntKind.i64.max=9223372036854775807:=bx;rw[this];omega
 have y:i=C:=by rw[hi]at c;injection c
 subst y;simp only[Builtin.append_,D,B,bQ hu,iL m,bQ h,a,Sem.run_bind,Result.andThen_ok,Sem.run_pure,bi,List.getElem?_toArray,List.getElem?_cons_zero,ai5,asInt,asIntOf,j,d,bF,wi c,l,ahX,ait,acg,q,false_and,p,run_choose,Question.forced,run_askRoom];rw[show({heap:=w.heap,tape:=w.tape,drawn:=w.drawn+1,os:=w.os,output:=w.output}:World)=w.drew from rfl,ef];simp only[Result.andThen_ok,f,x,newRow,Sem.run_bind,run_newObj,Sem.run_pure];rfl
end
section
variable{P:Program}{d:b8}{ρ:aM}{H H':ai}{w:World}{nt:Nat}{ac:az AV}{a:Act}{o:Oper}{ao:bJ}{v:AV}
theorem DT(a:Array Value)(n:Nat):(Builtin.zeroCells a n).size=n*a.size:=by simp[Builtin.zeroCells]
theorem Io(k:bo P d ρ H w){id:ah}{off len h m:Nat}{ad:Addr}{b x:Nat}(hb:ρ id=some (b,x))(g:h≠0->ad=⟨b,x+off,none⟩)(j:len<=h){size:Nat}(u:m=len*size){l:List AV}(hl:dE H id off m=some l):∃i:List Value,aZ ρ l i/\l.length=m/\∀w':World,w'.heap=w.heap->(loadCells ad m).run P w'=.ok i.toArray w':=by
 unfold dE at hl;split at hl
 .rename_i c n e p aK fz hi;have⟨q,_,_⟩:=AM m c n off l hl;rcases Nat.eq_zero_or_pos m with h0|h0;·subst h0;simp only[fW,abv]at hl;subst hl;exact⟨[],by trivial,rfl,λw' _=>by rfl⟩
  have r:len≠0:=by intro e;subst e;omega
  have:=g aa;subst this;have⟨v,y,o,f,s,t,a⟩:=k.aE (i:=id) (by grind);rw[hb]at f;injection f with f;injection f with e1 e2;subst e1;subst e2;rw[hi]at a;cases o with|cells cs z fr=>have⟨A,B⟩:=AN a hl;grind[yB]|_=>trivial
 grind
theorem DU(j:bo P d ρ H w){x:AV}{c:Value}(g:VR ρ x c){size n:Nat}{l:List AV}(h:fY H size x=some (n,l)):∃f:List Value,aZ ρ l f/\l.length=n*size/\(∀w':World,(Builtin.lenOf c).run P w'=.ok n w')/\∀w':World,w'.heap=w.heap->(Builtin.firstCells size n c).run P w'=.ok f.toArray w':=by
 unfold fY at h;split at h;·obtain⟨rfl,rfl⟩:=h;have:=g.lj;subst this;exact⟨[],by trivial,aC,λw'=>by rfl,λw' _=>by rfl⟩
 .split at h;·rename_i r hl;obtain⟨rfl,rfl⟩:=h;obtain⟨ad,v,rfl,y,A,B,b,z,hb,k,C⟩:=g.ma;have⟨f,m,o,p⟩:=Io (P:=P) j hb k aa rfl hl;exact⟨f,m,o,λw'=>by rfl,λw' q=>by simp[p,q,Builtin.firstCells]⟩
  grind
 .rename_i s;split at h
  .rename_i a;have a:=ah5 a;subst a;obtain⟨rfl,rfl⟩:=h;obtain⟨t,i,rfl⟩:=g.mP;have e:t.size=s.length:=by rw[<-i,aig,aiT];rfl
   refine⟨t.data.toList.map λb=>.int .u8 b.toNat,?_,aC,λw'=>by simp[e,Builtin.lenOf],λw' _=>?_⟩;·rw[<-i];generalize t.data.toList=l;induction l with|nil=>trivial|cons u l D=>trivial
   simp only[Builtin.firstCells,Sem.run_pure,Result.ok.injEq,and_true];rw[<-e];have:t.extract 0 t.size=t:=by apply ByteArray.ext;rw[ByteArray.data_extract];exact Array.extract_size
   grind
  grind
 grind
theorem DV(w:World)(A:Array Value)(L:List Value)(e:TypeId)(h:A.toList=L):w.alloc (.cells A e)={w with heap:=w.heap.push (.cells L.toArray e (0,0))}:=by subst h;rfl
theorem QC(C:bo P d ρ H w){s:AV}{sv:Value}(hs:VR ρ s sv){argTypes:Array TypeId}{ty sT e size T n:Nat}{l:List AV}{m:List Value}{x:Value}(R:sC P w argTypes e size x n m)(hl:aZ ρ l m)(u:l.length=n*size)(hT:argTypes[0]?=some sT)(hu:P.underlying sT=some (.slice e))(r:eW P e=some size)(a':vW P e=some T){z:Value}(hz:∀w,(zeroValue e).run P w=.ok z w)(ag:z.cells.size=size)(he:je e T size H s n l=some (v,H')):∃c w',(Builtin.append_ argTypes ty #[sv,x]).run P w=.ok c w'/\cI P d ρ w v H' c w':=by
 have⟨ti,av,aw⟩:=DO a';have ba:=aZ.length hl;unfold je at he;split at he;·cases he
 rename_i J;have J:cU l=true:=by simpa using J
 have t:dj d w w.drew:=(dj.refl d w).drew;split at he
 .have:=hs.lj;subst this;have g:=R.run ty (.slice none 0 0) none 0 0 rfl sT hT hu r;split at he;·rename_i q;have q:=ah5 q;subst q;obtain⟨rfl,rfl⟩:=he;exact⟨_,w,g.1 aa w aC,cI.bK C (by simp[VR])⟩
  rename_i q;have q:n≠0:=λe=>q (by subst e;rfl);split at he
  .rename_i p;simp only[ah4]at p;obtain⟨rfl,rfl⟩:=he;have bb:=grownCap_ge w (0+n) 0 e;have h2:=g.2 aa ti av (by rw[aif,aw];exact sB p.1) (by rw[aif];exact sB p.2) z hz #[] (by simp[Builtin.firstCells]);have⟨q1,q2,q3⟩:=wn (P:=P) (w:=w.drew) C.drew hl e (n*size) u.symm (Builtin.zeroCells z.cells (grownCap w (0+n) 0 e - (0+n))).toList;refine⟨_,_,h2,_,q1,?_,?_,?_⟩;·refine⟨aa,afM _,aa,(λh=>by cases h),_,_,aM.eA ..,λ_=>rfl,λ_=>?_⟩;rw[aM.sr];simp only[r,aiX,ahY,aiT,DT,ag,<-ba,u];rw[Nat.sub_mul];have:=aix size bb;simp only[aif]at this⊢;omega
   .rw[DV _ _ (m++(Builtin.zeroCells z.cells (grownCap w (0+n) 0 e - (0+n))).toList) _ aC];exact q2
   rw[DV _ _ (m++(Builtin.zeroCells z.cells (grownCap w (0+n) 0 e - (0+n))).toList) _ aC];exact t.trans q3
  cases he
 .rename_i id off len cap ex;obtain⟨ad,D,rfl,q1,q2,q3,b,F,hb,q4,q5⟩:=hs.ma;have g:=R.run ty (.slice (some ad) len D) (some ad) len D rfl sT hT hu r;simp only at he;split at he
  .rename_i a;have a:=aib a;split at he
   .rename_i q;have q:=ah5 q;subst q;obtain⟨rfl,rfl⟩:=he;have bc:m=[]:=by rw[Nat.zero_mul]at u;exact List.length_eq_zero_iff.1 aa
    subst bc;refine⟨_,w,g.1 aa w (by simp[storeCells]),cI.bK C ?_⟩;simp only[VR];exact⟨trivial,a,q2,q3,b,F,hb,q4,q5⟩
   rename_i q;have q:n≠0:=λe=>q (by subst e;rfl);split at he
   .rename_i H2 hw;obtain⟨rfl,rfl⟩:=he;have:=q4 aa;subst this;have⟨k1,k2,k3⟩:=yD C hw hb hl;refine⟨_,_,g.1 aa _ ?_,ρ,bZ.refl ρ,?_,k2,k3⟩;·simp only[su];rw[show F+off+len*size=F+(off+len*size)by omega];exact k1
    simp only[VR];exact⟨trivial,a,q2,q3,b,F,hb,q4,q5⟩
   cases he
  rename_i a;have a:¬len+n<=cap:=λh=>a (aiB h);split at he;·cases he
  rename_i p;have p:dT ((len+n)*T)=true/\dT (len+n)=true:=by simpa using p
  split at he
  .rename_i c mm e2 b7 aK fz hi;split at he;·cases he
   rename_i cM ef;have bv:dE H id off (len*size)=some cM:=by unfold dE;rw[hi];exact ef
   have⟨E,g1,g2,g3⟩:=Io (P:=P) C hb q4 aa rfl bv;have b0:(Builtin.firstCells size len (.slice (some ad) len D)).run P w.drew=.ok E.toArray w.drew:=by simp only[Builtin.firstCells];exact g3 _ rfl
   have eB:aZ ρ (cM++l) (E++m):=aZ.append g1 hl;have o:(len+n)*size=(cM++l).length:=by rw[ahY,g2,u,ajA]
   have K:=aZ.length eB;have L:¬len+n<=D->∃f:List Value,f.length=(grownCap w (len+n) D e - (len+n))*size/\len+n<=grownCap w (len+n) D e/\(Builtin.append_ argTypes ty #[.slice (some ad) len D,x]).run P w=.ok (.slice (some ⟨w.heap.size,0,none⟩) (len+n) (grownCap w (len+n) D e)) {w.drew with heap:=w.heap.push (.cells (E++m++f).toArray e (0,0))}:=by intro q;refine⟨(Builtin.zeroCells z.cells (grownCap w (len+n) D e - (len+n))).toList,by rw[aiT,DT,ag],grownCap_ge ..,?_⟩;have h2:=g.2 q ti av (by rw[aw];exact sB p.1) (sB p.2) z hz E.toArray b0;rw[h2,DV _ _ (E++m++(Builtin.zeroCells z.cells (grownCap w (len+n) D e - (len+n))).toList) _ aC];rfl
   split at he;·rename_i G;obtain⟨rfl,rfl⟩:=he;have b':=q3 G;have⟨f,r1,r2,r3⟩:=L aa;have⟨p1,p2,p3⟩:=wn (P:=P) (w:=w.drew) C.drew eB e ((len+n)*size) o f;refine⟨_,_,r3,_,p1,?_,p2.AL rfl,(t.trans p3).AL rfl rfl rfl rfl⟩;simp only[VR];refine⟨trivial,afM _,r2,(λh=>by cases h),_,_,aM.eA ..,λ_=>rfl,λ_=>?_⟩;rw[aM.sr];simp only[r,aiX,ahY (as:=E++m),r1,<-K,<-o];rw[Nat.sub_mul];have:=aix size r2;omega
   rename_i G;have G:ex=false:=by simpa using G
   subst G;split at he;case isFalse=>cases he
   rename_i M;simp only[ah4]at M;have⟨⟨⟨⟨b3,V⟩,S⟩,W⟩,ax⟩:=M;subst b3;have V:=ah5 V;have S:=ah5 S;have W:=(ah5 W).symm;have ax:=aib ax;subst V;subst W;obtain⟨rfl,rfl⟩:=he;have ay:H.get id≠.none:=by rw[hi];simp
   have⟨cf,x',ob,Z,ca,O,Q⟩:=C.aE ay;rw[hb]at Z;injection Z with Z;injection Z with e1 cd;subst e1;have i:=C.iJ id b F ob ay hb O;rw[hi]at Q i;cases ob with
   |cells cs el fr=>
    simp only[OR]at Q;simp only[eP,r,aiX]at i;have⟨o1,o2,o3,o4⟩:=Q;have N:=q5 rfl;rw[i]at N;simp only at N;by_cases A:len+n<=D
    .have a6:D≠0:=aa;have:=q4 a6;subst this;have a8:=aix size A;rw[ajA]at a8;have de:=HR (P:=P) w O (F+off+len*size) m aa (λj b4 X=>o4 trivial j aa aa) (aZ.DN hl J);have⟨f1,f2,f3,f4⟩:=DM b el fr m w cs (F+off+len*size) O;have Y:=AM (len*size) c mm off cM ef;obtain⟨p1,p2,p3⟩:=C.HS (w':=w.setCells b (F+off+len*size) m) hi hb (c2:=cq (cM++l)) (n2:=(len+n)*size) (e2:=e) (fz2:=fz - off) (b2:=b) (x2:=F+off) (ob2:=.cells (wr cs (F+off+len*size) m) el fr) (ρ.k b) (by simp only[eP,rl,r,aiX];exact i) (λ_=>rfl) (by
      refine⟨o1,by rw[rl,ajA];omega,λj hj=>?_,λ_ j b4 X=>o4 trivial j aa (by rw[rl]at X;exact X)⟩;have B:bZ ρ (ρ.add H.next b (F+off) (ρ.k b)):=aM.pQ _ _ _ (C.dc _ (afM _)).2 (λ_ _ _ _ hc=>by rw[<-hc]);rw[nN _ _ aa,yC _ _ _ _ aa];by_cases b6:j<len*size;·rw[an aa];have⟨y,hy,I⟩:=o3 (off+j) aa;refine⟨y,by rw[<-hy];congr 1;omega,VR.mono B _ _ ?_⟩;simp only[List.getD];rw[aij aa,Y.2.2 j b6];exact I
      rw[aG (by rw[ajA]at hj;omega)];have a1:j - len*size<l.length:=by rw[ajA]at hj;omega
      have⟨y,hy,I⟩:=aZ.get hl (j - len*size) l[j - len*size] (by simp[a1]);refine⟨y,by rw[<-hy];congr 1;omega,VR.mono B _ _ ?_⟩;simp only[List.getD];rw[ajb aa,g2,aiQ a1];exact I) f2 f3 f4 (.inr ⟨rfl,f1,by rw[ajA];omega,cs,_,el,fr,O,rfl,rl ..,λj hj=>by rw[yC _ _ _ _ aa,an aa]⟩);refine⟨_,_,g.1 A _ (by simp only[su];exact de),_,p1,?_,p2,p3⟩;simp only[VR];refine⟨trivial,afM _,A,(λh=>by cases h),_,_,aM.eA ..,λ_=>by simp,λ_=>?_⟩;rw[aM.sr,i];simp only;omega
    have⟨f,r1,r2,r3⟩:=L A;obtain⟨p1,p2,p3⟩:=C.drew.HS (w':={w.drew with heap:=w.heap.push (.cells (E++m++f).toArray e (0,0))}) hi hb (c2:=cq (cM++l)) (n2:=(len+n)*size) (e2:=e) (fz2:=fz - off) (b2:=w.heap.size) (x2:=0) (ob2:=.cells (E++m++f).toArray e (0,0)) ((E++m++f).length,size) (by simp only[eP,r,aiX,List.size_toArray]) (λh=>by omega) (by
     simp only[OR];refine⟨trivial,by rw[List.size_toArray,ahY (as:=E++m),<-K];omega,λj hj=>?_,λ_ j _ _=>by omega⟩;have B:bZ ρ (ρ.add H.next w.heap.size 0 ((E++m++f).length,size)):=aM.pQ _ _ _ (C.dc _ (afM _)).2 (λj' c' y' Z hc=>by have:=C.d8 j' c' y' Z;omega);rw[nN _ _ aa];have a2:j<(cM++l).length:=aa;have⟨y,hy,I⟩:=aZ.get eB j (cM++l)[j] (by simp only[aiQ a2]);refine⟨y,?_,VR.mono B _ _ ?_⟩;·rw[aif,List.getElem?_toArray,aij aa];exact hy
     simp only[List.getD];rw[aiQ a2];exact I) rfl rfl rfl (.inl ⟨rfl,rfl⟩);refine⟨_,_,r3,_,p1,?_,p2,t.trans p3⟩;simp only[VR];refine⟨trivial,afM _,r2,(λh=>by cases h),_,_,aM.eA ..,λ_=>rfl,λ_=>?_⟩;rw[aM.sr];simp only[ahY (as:=E++m),r1,<-K,<-o];rw[Nat.sub_mul];have:=aix size r2;omega
   |_=>simp[OR]at Q
  cases he
 cases he
end
section
variable{P:Program}{f:b8}{ρ:aM}{H H':ai}{w:World}{nt:Nat}{ac:az AV}{a:Act}{o:Oper}{ao:bJ}{v:AV}
theorem QD(h:dk P f ρ H w nt ac a){c:Call}(W:o.op=.call c)(hb:c.callee=.builtin .append)(g:bL P nt o=some ao)(he:aH ao ac H=some (v,H')):bC P f ρ w (execOp a.eval o) v H':=by
 simp only[bL,W,hb,afN,ab1]at g;have⟨t,Z,d,hd,g⟩:=g;have⟨G,N⟩:=uh (P:=P) (a:=a) W hb w;split at g
 .rename_i e;simp only[ab1]at g;have⟨size,O,z,hz,g⟩:=g;split at g;·grind
  rename_i j;have b:z.cells.length=size/\size≠0/\c.args.size=2:=by simpa[not_or]using j
  have j:z.cells.length=size/\size≠0:=⟨b.1,b.2.1⟩;have Q:=b.2.2;simp only[ab1,ahZ,abv]at g;obtain⟨xT,q,d2,r,R,s,os,⟨X,S,B⟩,ox,⟨J,T,C⟩,rfl⟩:=g;have⟨zv,u,x,y⟩:=sx hz;have A:zv.cells.size=size:=by have:=aZ.length (VR.cells (x ρ) y);simp at this;omega
  have gs:=h.gv B;have K:=h.gv C;have p:c.args.map a.eval= #[a.eval X,a.eval J]:=by apply Array.ext_getElem?;intro i;match i with|0=>simp[S]|1=>simp[T]|i+2=>rw[ai3 (by simp[Q]),ai3 aC]
  have D:(execOp a.eval o).run P w=((Builtin.append_ c.argTypes o.type #[a.eval X,a.eval J]).run P w).andThen λv w=>.ok (.value v) w:=by rw[N];simp only[builtin,p,Sem.run_bind,Sem.run_pure]
  have aq:∀{n:Nat}{l:List AV}{m:List Value},sC P w c.argTypes e size (a.eval J) n m->aZ ρ l m->l.length=n*size->je e R size H (gv ac os) n l=some (v,H')->bC P f ρ w (execOp a.eval o) v H':=by intro n l m E hl F he;have⟨c',w',L,M⟩:=QC (ty:=o.type) h.I gs E hl F Z hd O s u A he;exact bC.val (by rw[D,L];rfl) M
  simp only[aH]at he;split at he
  .simp only[bi]at he;split at he
   .rename_i n hv;split at he;·rename_i hs;simp only[ah4]at hs;rw[hv]at K;have⟨k',ag,hx⟩:=K.iW;rw[hx]at aq;refine aq (sC.QB q r s (sB hs.1) (sB hs.2) u A) (AU (VR.cells (x ρ) y) n aa) (by simp[j,yI]) he
    grind
   grind
  rename_i hm;simp only[acg,bF]at he;split at he;·rename_i n l V;have⟨ms,L,M,k3,Y⟩:=DU (P:=P) h.I K V;exact aq (sC.QA q r (λk e=>hm k e) k3 (Y _ rfl) (Y _ rfl)) L M he
  grind
 grind
theorem QE(h:dk P f ρ H w nt ac a){c:Call}(ho:o.op=.call c)(hb:c.callee=.builtin .copy)(G:bL P nt o=some ao)(he:aH ao ac H=some (v,H')):bC P f ρ w (execOp a.eval o) v H':=by
 simp only[bL,ho,hb,afN,ab1]at G;have⟨t,Y,d,hd,G⟩:=G;have⟨X,y⟩:=uh (P:=P) (a:=a) ho hb w;split at G
 .rename_i e;simp only[ab1,ahZ,abv]at G;obtain⟨size,A,od,⟨yd,ag,N⟩,os,⟨K,av,O⟩,rfl⟩:=G;have R:=h.gv N;have k:=h.gv O;have B:(c.args.map a.eval)[0]?=some (a.eval yd):=by simp[ag]
  have C:(c.args.map a.eval)[1]?=some (a.eval K):=by simp[av]
  simp only[aH]at he;split at he
  .rename_i p Z m;have⟨n,l⟩:=p;simp only[abv,ahW]at he;obtain⟨rfl,rfl⟩:=he;rw[Z]at R;have S:=R.lj;have⟨J,k1,k2,T,V⟩:=DU (P:=P) h.I k m;have aw:(Builtin.firstCells size 0 (a.eval K)).run P w=.ok #[] w:=by have:=V w rfl;revert this;cases a.eval K with|slice b l c=>cases b<;>simp[Builtin.firstCells,loadCells,loadCellsFrom]|string s=>intro _;simp[Builtin.firstCells]|_=>simp[Builtin.firstCells]
   refine bC.val (c:=goInt 0) (w':=w) ?_ (cI.bK h.I (VR.goInt ρ 0));rw[y];simp[builtin,Builtin.copy_,Y,bQ hd,B,C,S,T,iL A,aw]
  .rename_i id off len cap ex n l Z m;rw[Z]at R;have⟨ad,cp,S,q1,q2,q3,b,z,ax,q4,q5⟩:=R.ma;have⟨J,k1,k2,T,V⟩:=DU (P:=P) h.I k m;have i:(Builtin.firstCells size (min n len) (a.eval K)).run P w=.ok (J.take (min n len*size)).toArray w:=by
    have:=V w rfl;have bv:=aZ.length k1;revert this;cases q:a.eval K with
    |slice bc ll cc=>
     cases bc with
     |none=>
      simp only[Builtin.firstCells,Sem.run_pure,Result.ok.injEq,and_true];intro h;have:J=[]:=by simpa using h.symm
      subst this;simp
     |some b0=>
      intro _;rw[q]at k;have g:=m;unfold fY at g;split at g;·rename_i x;rw[x]at k;have:=k.lj;cases this
      .rename_i ay r a' ba b3 x;rw[x]at k;have⟨b4,b6,e3,r1,r2,r3,cf,z3,a1,r4,r5⟩:=k.ma;simp only[Value.slice.injEq,abv]at e3;obtain⟨rfl,rfl,rfl⟩:=e3;split at g
       .rename_i l' u;simp only[abv,ahW]at g;obtain⟨rfl,rfl⟩:=g;simp only[Builtin.firstCells];unfold dE at u;split at u
        .rename_i c3 n3 e4 b7 bb b' L;have j:=V w rfl;rw[q]at j;simp only[Builtin.firstCells]at j;rcases Nat.eq_zero_or_pos (min n3 0+min ll len*size)with h0|h0;·have:min ll len*size=0:=aa;rw[this];simp[loadCells,loadCellsFrom]
         have a2:min ll len*size≠0:=aa;have ca:ll≠0:=by intro e;subst e;simp at a2
         have:=r4 aa;subst this;obtain⟨cn,x',ob,W,cd,M,D⟩:=h.I.aE (i:=ay) (by rw[L];simp);rw[a1]at W;injection W with W;injection W with e1 e2;subst e1;subst e2;rw[L]at D;cases ob with
         |cells cs el fr=>
          have⟨w1,w2⟩:=AN D u;have Q:min ll len*size<=ll*size:=aix size (Nat.min_le_left _ _);have a6:=w2 aa;have e5:=yB (P:=P) w M (z3+r) (ll*size) a6;rw[j]at e5;simp only[Result.ok.injEq,and_true]at e5;have e6:J=List.take (ll*size) (List.drop (z3+r) cs.toList):=by simpa using e5
          rw[yB (P:=P) w M (z3+r) (min ll len*size) aa,e6,List.take_take,ajz Q]
         |_=>simp[OR]at D
        cases u
       cases g
      .rename_i x;rw[x]at k;obtain⟨t,_,e⟩:=k.mP;cases e
      cases g
    |string s=>
     simp only[Builtin.firstCells,Sem.run_pure,Result.ok.injEq,and_true];intro x;rw[q]at k;have g:=m;unfold fY at g;split at g;·rename_i E;rw[E]at k;have:=k.lj;cases this
     .rename_i E;rw[E]at k;obtain⟨_,_,e,_⟩:=k.ma;cases e
     .split at g
      .rename_i F;have F:=ah5 F;subst F;have e6:J=((s.extract 0 n).data.map λb=>Value.int .u8 b.toNat).toList:=by rw[x]
       rw[e6,ajo];apply Array.toList_inj.1;simp only[Array.toList_map,ByteArray.data_extract,Array.toList_extract,List.extract_eq_drop_take,ajG,ajF];rw[<-List.map_take,List.take_take];congr 2;omega
      cases g
     cases g
    |_=>simp[Builtin.firstCells]
   split at he;·rename_i hm;simp only[abv,ahW]at he;obtain⟨rfl,rfl⟩:=he;rw[hm]at i;refine bC.val (c:=goInt 0) (w':=w) ?_ (cI.bK h.I (VR.goInt ρ 0));have a8:Nat.min n len=0:=hm;rw[y];simp[builtin,Builtin.copy_,Y,bQ hd,B,C,S,T,iL A,a8,i,storeCells]
   rename_i hm;split at he;·rename_i H2 hw;simp only[abv,ahW]at he;obtain⟨rfl,rfl⟩:=he;have:=q4 aa;subst this;have⟨p1,p2,p3⟩:=yD h.I hw ax (aZ.take (min n len*size) k1);refine bC.val (c:=goInt ((min n len:Nat):Int)) (w':=w.setCells b (z+off) (J.take (min n len*size))) ?_ ⟨ρ,bZ.refl ρ,VR.goInt ρ _,p2,p3⟩;rw[y];simp only[builtin,Builtin.copy_,Y,B,C,Sem.run_bind,bQ hd,Result.andThen_ok,S,T,iL A];rw[show Nat.min n len=min n len from rfl,i];simp[p1]
   cases he
  cases he
 grind
theorem QF(h:dk P f ρ H w nt ac a){c:Call}(J:o.op=.call c)(hb:c.callee=.builtin .clear)(k:bL P nt o=some ao)(he:aH ao ac H=some (v,H')):bC P f ρ w (execOp a.eval o) v H':=by
 simp only[bL,J,hb,afN,ab1]at k;have⟨t,A,d,hd,k⟩:=k;have⟨C,e⟩:=uh (P:=P) (a:=a) J hb w;split at k
 .simp only[ab1,ahZ,abv]at k;obtain⟨z,K,od,⟨L,F,u⟩,rfl⟩:=k;have⟨zv,m,p,q⟩:=sx K;have B:=h.gv u;have g:(c.args.map a.eval)[0]?=some (a.eval L):=by simp[F]
  simp only[aH]at he;split at he;·rename_i D;obtain⟨rfl,rfl⟩:=he;rw[D]at B;have l:=B.lj;refine bC.val (c:=.tuple #[]) (w':=w) ?_ (cI.bK h.I (VR.ajS ρ));rw[e];simp[builtin,Builtin.clear_,A,g,bQ hd,l]
  .rename_i id off n cap ex D;rw[D]at B;have⟨ad,Q,l,R,S,T,b,y,r,M,V⟩:=B.ma;split at he;·rename_i N;obtain⟨rfl,rfl⟩:=he;subst N;refine bC.val (c:=.tuple #[]) (w':=w) ?_ (cI.bK h.I (VR.ajS ρ));rw[e];simp[builtin,Builtin.clear_,A,g,bQ hd,l]
   split at he
   .rename_i W E;obtain⟨rfl,rfl⟩:=he;have:=M aa;subst this;by_cases s:z.cells.length=0
    .have x:z.cells=[]:=List.length_eq_zero_iff.1 s;have j:∀n,dY z.cells n=[]:=by intro n;rw[x];induction n with|zero=>rfl|succ n O=>simp[dY,O]
     rw[j]at E;have G:zv.cells.size=0:=by have:=aZ.length (VR.cells (p ρ) q);simp at this;omega
     have⟨p1,p2,p3⟩:=yD h.I E r (m:=[]) (by trivial);refine bC.val (c:=.tuple #[]) (w':=w.setCells b (y+off) []) ?_ ⟨ρ,bZ.refl ρ,VR.ajS ρ,p2,p3⟩;rw[e];have i:(Builtin.zeroCells zv.cells n).toList=[]:=by apply List.length_eq_zero_iff.1;rw[aiT,DT,G];omega
     simp[builtin,Builtin.clear_,A,g,bQ hd,l,m,i,p1]
    have⟨p1,p2,p3⟩:=yD h.I E r (AU (VR.cells (p ρ) q) n s);refine bC.val (c:=.tuple #[]) (w':=w.setCells b (y+off) ((ajQ (n*zv.cells.size)).map (zv.cells[·% zv.cells.size]!)).toList) ?_ ⟨ρ,bZ.refl ρ,VR.ajS ρ,p2,p3⟩;rw[e];have i:(Builtin.zeroCells zv.cells n).toList=((ajQ (n*zv.cells.size)).map (zv.cells[·% zv.cells.size]!)).toList:=rfl;simp only[builtin,Builtin.clear_,A,g,Sem.run_bind,bQ hd,Result.andThen_ok,l,m,i,p1,Sem.run_pure]
   grind
  grind
 grind
end
section
variable{P:Program}{c:b8}{ρ:aM}{H H':ai}{w:World}{nt:Nat}{ac:az AV}{a:Act}{o:Oper}{ao:bJ}{v:AV}
def DW(P:Program)(ρ:aM)(f:Nat):Prop:=∀{const:Bool}{t:TypeId}{d:dA},iy P f const t=some d->∀{g:Nat}{x y:AV}{r:Bool},db g d x y=some r->
 ∀{a b:Value},VR ρ x a->VR ρ y b->∀(n:Nat)(w:World),f<=n->(Op.equalIn n t a b).run P w=.ok r w
theorem Ip{f:Nat}(h:DW P ρ f){o q:List AV}{t u:Array Value}(v:aZ ρ o t.toList)(z:aZ ρ q u.toList)(n:Nat)(w:World)(i:f<=n):∀(fs:List Field)(l:List (Nat×Nat×Bool×dA))(g:Nat)(r:Bool),(fs.mapM λ(g:Field)=>if g.name= "_" then none else match iy P f false g.type,eW P g.type,mN P g.type with|some d,some s,some a=>some (g.offset,s,a,d)|_,_,_=>none)=some l->db.go g o q l=some r->(Op.eqFields n t u fs).run P w=.ok r w
 |[],l,g,r,h1,h2=>by simp only[List.mapM_nil,ahZ,abv]at h1;subst h1;unfold db.go at h2;simp only[abv]at h2;subst h2;simp[Op.eqFields]
 |G::fs,l,g,r,h1,h2=>by
  simp only[ajx,afN,ab1,ahZ,abv]at h1;obtain⟨p,b,D,j,rfl⟩:=h1;split at b;·cases b
  rename_i e;split at b
  .rename_i d s a hd hs A;injection b with b;subst b;cases g with
   |zero=>simp[db.go]at h2
   |succ g=>
    simp only[db.go]at h2;split at h2
    .rename_i x y k m;have⟨H,E,B⟩:=ug (P:=P) (w:=w) v A hs k;have⟨I,F,C⟩:=ug (P:=P) (w:=w) z A hs m;simp only[Op.eqFields,e,ne_eq,not_false_eq_true,bi,Sem.run_bind,E,F,Result.andThen_ok];split at h2;·rename_i he;rw[h hd he B C n w i];exact Ip h v z n w i fs D g r j h2
     .rename_i he;injection h2 with h2;subst h2;rw[h hd he B C n w i];simp
     cases h2
    cases h2
  cases b
theorem Iq{f:Nat}(b:DW P ρ f){m o:List AV}{p q:Array Value}(t:aZ ρ m p.toList)(u:aZ ρ o q.toList)(n:Nat)(w:World)(h:f<=n){e:TypeId}{s:Nat}{a:Bool}{d:dA}(hd:iy P f false e=some d)(hs:eW P e=some s)(j:mN P e=some a):∀(is:List Nat)(g:Nat)(r:Bool),db.go g m o (is.map λi=>(i*s,s,a,d))=some r->(Op.eqItems n e s p q is).run P w=.ok r w
 |[],g,r,h2=>by simp only[ajh]at h2;unfold db.go at h2;simp only[abv]at h2;subst h2;simp[Op.eqItems]
 |i::is,g,r,h2=>by
  cases g with
  |zero=>simp[db.go]at h2
  |succ g=>
   simp only[ah2,db.go]at h2;split at h2
   .rename_i x y k l;have⟨C,A,v⟩:=ug (P:=P) (w:=w) t j hs k;have⟨D,B,z⟩:=ug (P:=P) (w:=w) u j hs l;simp only[Op.eqItems,Sem.run_bind,A,B,Result.andThen_ok];split at h2;·rename_i he;rw[b hd he v z n w h];exact Iq b t u n w h hd hs j is g r h2
    .rename_i he;injection h2 with h2;subst h2;rw[b hd he v z n w h];simp
    cases h2
   cases h2
set_option maxHeartbeats 1000000 in theorem AZ(ρ:aM)(f:Nat):DW P ρ f:=by
 induction f with
 |zero=>intro const t d h;simp[iy]at h
 |succ f M=>
  intro const t d h g x y r he T V k m n w W;cases n with
  |zero=>omega
  |succ n=>
   have E:f<=n:=aa;unfold iy at h;split at h;all_goals(rename_i hu)
   .injection h with h;subst h;unfold db at he;split at he<;>(try(rename_i u;cases u;done))<;>(try(cases he;done));injection he with he;rw[k.oX,m.oX,<-he];exact run_equalIn_bool' w n t _ _ hu
   .injection h with h;subst h;unfold db at he;split at he<;>(try(rename_i u;cases u;done))<;>(try(cases he;done));split at he;·rename_i O;injection he with he;obtain⟨X,h1,rfl⟩:=k.iW;obtain⟨Y,h2,rfl⟩:=m.iW;have:=ue (h1.symm.trans (O.trans h2));subst this;rw[<-he,dV];exact run_equalIn_int w n t _ _ _ _ hu
    cases he
   .injection h with h;subst h;unfold db at he;split at he<;>(try(rename_i u;cases u;done))<;>(try(cases he;done));injection he with he;obtain⟨t1,h1,rfl⟩:=k.mP;obtain⟨N,h2,rfl⟩:=m.mP;subst h1;subst h2;rw[<-he,<-Ie];exact run_equalIn_string w n t _ _ hu
   .split at h
    .rename_i Z J;injection h with h;subst h;unfold db at he;split at he<;>(try(rename_i u;cases u;done))<;>(try(cases he;done));·injection he with he;subst he;rw[k.AP,m.AP];simp[Op.equalIn,bQ hu]
     .injection he with he;subst he;have⟨b,z,h1,h2⟩:=m.l9;rw[k.AP,h2];simp[Op.equalIn,bQ hu]
     .injection he with he;subst he;have⟨b,z,h1,h2⟩:=k.l9;rw[m.AP,h2];simp[Op.equalIn,bQ hu]
     rename_i _ i _ j _;split at he
     .rename_i hb;have hb:=ah.fg.1 hb;subst hb;injection he with he;obtain⟨b,z,h1,rfl⟩:=k.l9;obtain⟨b',z',v,rfl⟩:=m.l9;rw[h1]at v;injection v with v;injection v with e1 e2;subst e1;subst e2;simp only[Op.equalIn,Sem.run_bind,bQ hu,Result.andThen_ok,iL J];rw[<-he];have:((⟨b,z+i,none⟩:Addr)==⟨b,z+j,none⟩)=ah8 i j:=by
       rw[ajp,beq_iff_eq,Addr.mk.injEq];constructor;·intro h;have:i=j:=aa;subst this;exact aje _
       intro h;have:=ah5 h;subst this;simp
      simp[sameAddr,this]
     cases he
    cases h
   .injection h with h;subst h;unfold db at he;split at he<;>(try(rename_i u;cases u;done))<;>(try(cases he;done));all_goals injection he with he;subst he
    .rw[k.lj,m.lj];simp[Op.equalIn,bQ hu]
    .have⟨ad,Q,h1,_⟩:=m.ma;rw[k.lj,h1];simp[Op.equalIn,bQ hu]
    have⟨ad,Q,h1,_⟩:=k.ma;rw[m.lj,h1];simp[Op.equalIn,bQ hu]
   .injection h with h;subst h;unfold db at he;split at he<;>(try(rename_i u;cases u;done))<;>(try(cases he;done));all_goals injection he with he;subst he
    .rw[k.sw,m.sw];simp[Op.equalIn,bQ hu]
    .have⟨b,_,h1⟩:=m.oY;rw[k.sw,h1];simp[Op.equalIn,bQ hu]
    have⟨b,_,h1⟩:=k.oY;rw[m.sw,h1];simp[Op.equalIn,bQ hu]
   .injection h with h;subst h;unfold db at he;split at he<;>(try(rename_i u;cases u;done))<;>(try(cases he;done));all_goals injection he with he;subst he
    .rw[k.we,m.we];simp[Op.equalIn,bQ hu]
    .have⟨p,q,_,_,h1⟩:=m.AQ;rw[k.we,h1];simp[Op.equalIn,bQ hu]
    .have⟨p,q,_,_,h1⟩:=k.AQ;rw[m.we,h1];simp[Op.equalIn,bQ hu]
    .have⟨p,q,h1⟩:=m.AR;rw[k.we,h1];simp[Op.equalIn,bQ hu]
    have⟨p,q,h1⟩:=k.AR;rw[m.we,h1];simp[Op.equalIn,bQ hu]
   .injection h with h;subst h;unfold db at he;split at he<;>(try(rename_i u;cases u;done))<;>(try(cases he;done))
    .split at he;·injection he with he;subst he;rw[k.yF,m.yF];simp[Op.equalIn,bQ hu]
     cases he
    .injection he with he;subst he;have⟨p,_,h1⟩:=m.wd;rw[k.yF,h1];simp[Op.equalIn,bQ hu]
    .injection he with he;subst he;have⟨p,_,h1⟩:=k.wd;rw[m.yF,h1];simp[Op.equalIn,bQ hu]
    rename_i t1 _ N _ _;split at he;·cases he
    rename_i K;injection he with he;subst he;obtain⟨p,_,rfl⟩:=k.wd;obtain⟨q,_,rfl⟩:=m.wd;have:¬t1=N:=λe=>K (by subst e;exact aje _);simp only[Op.equalIn,Sem.run_bind,bQ hu,Result.andThen_ok,ne_eq,this,not_false_eq_true,bi,Sem.run_pure]
   .split at h;·cases h
    rename_i de;rw[af0]at h;obtain⟨l,hl,rfl⟩:=h;unfold db at he;split at he<;>(try(rename_i u;cases u;done))<;>(try(cases he;done));rename_i A;cases A;obtain⟨H,B,rfl⟩:=k.rm;obtain⟨I,C,rfl⟩:=m.rm;have D:=congrArg (λ(o:Option TypeDesc)=>match o with|some (.struct fs)=>fs|_=> #[]) hu;change P.fieldsOf t=_ at D;rw[run_equalIn_struct w n t H I (by rw[hu,D]) (by simpa using de),D];exact Ip M B C n w E _ _ _ _ hl he
   .split at h;·rename_i d s a hd hs R;injection h with h;subst h;unfold db at he;split at he<;>(try(rename_i u;cases u;done))<;>(try(cases he;done));rename_i A;cases A;obtain⟨H,B,rfl⟩:=k.rm;obtain⟨I,C,rfl⟩:=m.rm;have⟨S,F,L⟩:=HT hs;rw[run_equalIn_array w n H I hu F];have G:=congrArg (λ(o:Option TypeInfo)=>(o.map (·.size)).getD 0) F;change P.cellsOf _=_ at G;rw[G,show(Option.map (λi:TypeInfo=>i.size) (some S)).getD 0=s from L];exact Iq M B C n w E hd hs R _ _ _ he
    cases h
   cases h
end
section
variable{P:Program}{h:b8}{ρ:aM}{H H':ai}{w:World}{nt:Nat}{ac:az AV}{a:Act}{o:Oper}{ao:bJ}{v:AV}
def DX(P:Program)(ρ:aM)(em:Bool)(f:Nat):Prop:=∀{const:Bool}{t:TypeId}{d:dA},iy P f const t=some d->∀{g:Nat}{x:AV},pM g d x=true->
 ∀{a:Value},VR ρ x a->∀(n:Nat)(w:World),f<=n->(Instr.checkKey em n t a).run P w=.ok () w
theorem Ir{em:Bool}{f:Nat}(j:DX P ρ em f){k:List AV}{m:Array Value}(o:aZ ρ k m.toList)(n:Nat)(w:World)(q:f<=n):∀(fs:List Field)(l:List (Nat×Nat×Bool×dA))(g:Nat),(fs.mapM λ(g:Field)=>if g.name= "_" then none else match iy P f false g.type,eW P g.type,mN P g.type with|some d,some s,some a=>some (g.offset,s,a,d)|_,_,_=>none)=some l->pM.go g k l=true->(forIn fs PUnit.unit λ(f:Field)r=>(if f.name≠ "_" then(do(Instr.checkKey em n f.type (<-part f.type m f.offset));pure (ForInStep.yield PUnit.unit))else pure (ForInStep.yield PUnit.unit):Sem (ForInStep PUnit))).run P w=.ok PUnit.unit w
 |[],l,g,h1,h2=>by rfl
 |y::fs,l,g,h1,h2=>by
  simp only[ajx,afN,ab1,ahZ,abv]at h1;obtain⟨p,b,t,c,rfl⟩:=h1;split at b;·grind
  rename_i i;split at b
  .rename_i d s a hd hs u;injection b with b;subst b;cases g with
   |zero=>trivial
   |succ g=>
    simp only[pM.go]at h2;split at h2;·rename_i x e;simp only[ah4]at h2;have⟨z,A,v⟩:=ug (P:=P) (w:=w) o u hs e;have h3:=j hd h2.1 v n w q;have B:=Ir j o n w q fs t g c h2.2;simp_all
    grind
  grind
theorem Is{em:Bool}{f:Nat}(c:DX P ρ em f){j:List AV}{k:Array Value}(l:aZ ρ j k.toList)(n:Nat)(w:World)(m:f<=n){e:TypeId}{s:Nat}{a:Bool}{d:dA}(hd:iy P f false e=some d)(hs:eW P e=some s)(o:mN P e=some a):∀(is:List Nat)(g:Nat),pM.go g j (is.map λi=>(i*s,s,a,d))=true->(forIn is PUnit.unit λ(i:Nat)r=>(do(Instr.checkKey em n e (<-part e k (i*(<-sizeOf e))));pure (ForInStep.yield PUnit.unit):Sem (ForInStep PUnit))).run P w=.ok PUnit.unit w
 |[],g,h2=>by rfl
 |i::is,g,h2=>by
  cases g with
  |zero=>trivial
  |succ g=>
   simp only[ah2,pM.go]at h2;split at h2;·rename_i x b;simp only[ah4]at h2;have⟨q,t,p⟩:=ug (P:=P) (w:=w) l o hs b;have h3:=c hd h2.1 p n w m;have u:=Is c l n w m hd hs o is g h2.2;simp_all[List.forIn_cons,Sem.run_bind,iL,Result.andThen_ok,Sem.run_pure]
   grind
theorem QG(ρ:aM)(em:Bool)(f:Nat):DX P ρ em f:=by
 induction f with
 |zero=>intro const t d u;simp[iy]at u
 |succ f k=>
  intro const t d u g x he q m n w r;cases n with
  |zero=>omega
  |succ n=>
   have e:f<=n:=aa;unfold iy at u;split at u;all_goals(rename_i hu)
   .simp[Instr.checkKey,bQ hu]
   .simp[Instr.checkKey,bQ hu]
   .simp[Instr.checkKey,bQ hu]
   .simp[Instr.checkKey,bQ hu]
   .simp[Instr.checkKey,bQ hu]
   .simp[Instr.checkKey,bQ hu]
   .simp[Instr.checkKey,bQ hu]
   .injection u with u;subst u;unfold pM at he;cases x<;>cases he
   .split at u;·cases u
    rw[af0]at u;obtain⟨l,hl,rfl⟩:=u;unfold pM at he;split at he<;>(try(rename_i j;cases j;done))<;>(try(cases he;done));rename_i b;cases b;obtain⟨o,c,rfl⟩:=m.rm;have i:=Ir k c n w e _ _ _ hl he;simp only[Instr.checkKey,Sem.run_bind,bQ hu,Result.andThen_ok,<-Array.forIn_toList];rw[i];rfl
   .split at u;·rename_i d s a hd hs p;injection u with u;subst u;unfold pM at he;split at he<;>(try(rename_i j;cases j;done))<;>(try(cases he;done));rename_i b;cases b;obtain⟨o,c,rfl⟩:=m.rm;have i:=Is k c n w e hd hs p _ _ he;simp only[Instr.checkKey,Sem.run_bind,bQ hu,Result.andThen_ok];simp only[Std.Legacy.Range.forIn_eq_forIn_range',Std.Legacy.Range.size,ajF,Nat.add_one_sub_one,Nat.div_one];rw[List.range_eq_range']at i;rw[i];rfl
    cases u
   cases u
theorem DY{t:TypeId}{d:dA}(a:rc P t=some d):∃kd,P.underlying t=some kd/\iy P 16 false t=some d/\((kd=.bool/\d=.bool)\/(∃k,kd=.int k/\d=.int)\/(kd=.string/\d=.str)\/∃l,d=.dW l):=by
 unfold rc at a;split at a;all_goals(try(cases a;done))
 all_goals(rename_i hu;refine⟨_,hu,a,?_⟩)
 all_goals unfold iy at a;simp only[hu]at a
 .grind
 .grind
 .grind
 all_goals grind[Option.map_eq_some_iff]
theorem DZ{t:TypeId}{kd:TypeDesc}(hu:P.underlying t=some kd)(a:kd=.bool\/(∃k,kd=.int k)\/kd=.string)(em:Bool)(n:Nat)(x:Value)(w:World):(Instr.checkKey em (n+1) t x).run P w=.ok () w:=by rcases a with rfl|⟨k,rfl⟩|rfl<;>simp[Instr.checkKey,bQ hu]
theorem D0{t:TypeId}{d:dA}(e:rc P t=some d){k:AV}(a:iH d k=true){kv:Value}(b:VR ρ k kv)(em:Bool)(w:World):(Instr.checkKey em 10000 t kv).run P w=.ok () w:=by
 have⟨kd,hu,he,hd⟩:=DY e;rcases hd with⟨rfl,rfl⟩|⟨c,rfl,rfl⟩|⟨rfl,rfl⟩|⟨l,rfl⟩;·exact DZ hu (.inl rfl) em 9999 kv w
 .exact DZ hu (.inr (.inl ⟨_,rfl⟩)) em 9999 kv w
 .exact DZ hu (.inr (.inr rfl)) em 9999 kv w
 exact QG ρ em 16 he a b 10000 w aC
def FR(ρ:aM)(n:Nat):Option (Nat×AV)->Option (Nat×Value)->Prop
 |none,none=>True
 |some (i,v),some (j,c)=>i=j/\VR ρ v c/\i<n
 |_,_=>False
theorem It{t:TypeId}{d:dA}(j:iy P 16 false t=some d){k:AV}{kv:Value}(b:VR ρ k kv)(w:World):∀(es:List aW)(bB:List MapEntry)(i:Nat)(r:Option (Nat×AV)),cr ρ es bB->findKey d k es i=some r->∃a,(Instr.findAsking t kv bB i).run P w=.ok a w/\FR ρ (i+es.length) r a
 |[],[],i,r,_,h2=>by simp only[findKey,abv]at h2;subst h2;exact⟨none,by rfl,trivial⟩
 |e::es,c::bB,i,r,h1,h2=>by
  simp only[findKey]at h2;split at h2;·rename_i he;injection h2 with h2;subst h2;have:=AZ ρ 16 j he b h1.1 10000 w aa;refine⟨some (i,c.val),?_,rfl,h1.2.1,aC⟩;simp[this,Instr.findAsking,Op.equal,Op.maxDepth,Sem.run_bind,Result.andThen_ok,bi,Sem.run_pure]
  .rename_i he;have:=AZ ρ 16 j he b h1.1 10000 w aa;have⟨a,f,g⟩:=It j b w es bB (i+1) r h1.2.2.2 h2;refine⟨a,?_,by grind⟩;simp[this,f,Instr.findAsking,Op.equal,Op.maxDepth,Sem.run_bind,Result.andThen_ok,acg,bF]
  grind
 |[],_::_,_,_,h1,_=>by trivial
 |_::_,[],_,_,h1,_=>by trivial
theorem QH{t:TypeId}{kd:TypeDesc}(hu:P.underlying t=some kd){x y:Value}{b:Bool}(c:Instr.sameNow kd x y=some b)(n:Nat)(w:World):(Op.equalIn (n+1) t x y).run P w=.ok b w:=by
 unfold Instr.sameNow at c;split at c
 .split at c;·rename_i a;injection c with c;subst a;subst c;simp[Op.equalIn,bQ hu]
  grind
 .injection c with c;subst c;simp[Op.equalIn,bQ hu]
 .injection c with c;subst c;simp[Op.equalIn,bQ hu]
 grind
theorem Iu{t:TypeId}{kd:TypeDesc}(hu:P.underlying t=some kd){d:dA}(n:iy P 16 false t=some d){k:AV}{kv:Value}(g:VR ρ k kv)(w:World):∀(es:List aW)(bB:List MapEntry)(i:Nat)(r:Option (Nat×AV))(a:Option (Nat×Value)),cr ρ es bB->findKey d k es i=some r->Instr.findNow kd kv bB i=some a->FR ρ (i+es.length) r a
 |[],[],i,r,a,_,h2,h3=>by simp only[findKey,abv]at h2;subst h2;simp only[Instr.findNow,abv]at h3;subst h3;trivial
 |e::es,c::bB,i,r,a,h1,h2,h3=>by
  simp only[findKey]at h2;simp only[Instr.findNow]at h3;have Iv:∀b f,db 64 d k e.key=some b->Instr.sameNow kd kv c.key=some f->b=f:=by intro b f j l;have e1:=AZ ρ 16 n j g h1.1 10000 w aa;have e2:=QH hu l 9999 w;have m:=e1.symm.trans e2;injection m
  split at h2
  .rename_i he;injection h2 with h2;subst h2;split at h3;·injection h3 with h3;subst h3;exact⟨rfl,h1.2.1,aC⟩
   all_goals grind
  .rename_i he;split at h3;·grind
   .have:=Iu hu n g w es bB (i+1) r a h1.2.2.2 h2 h3;grind
   grind
  grind
 |[],_::_,_,_,_,h1,_,_=>by trivial
 |_::_,[],_,_,_,h1,_,_=>by trivial
theorem ui{t:TypeId}{d:dA}(j:rc P t=some d){k:AV}{kv:Value}(b:VR ρ k kv)(w:World){es:List aW}{bB:List MapEntry}(he:cr ρ es bB){r:Option (Nat×AV)}(c:findKey d k es 0=some r):∃a,(Instr.findKey t kv bB).run P w=.ok a w/\FR ρ es.length r a:=by have⟨kd,hu,e,_⟩:=DY j;cases f:Instr.findNow kd kv bB 0 with|some a=>have:=Iu hu e b w es bB 0 r a he c f;simp_all[aif,Instr.findKey,bQ]|none=>have⟨a,g,i⟩:=It e b w es bB 0 r he c;simp_all[aif,Instr.findKey,bQ]
theorem Iw{s t:ByteArray}(a:iG (s.data.toList.map ajs) (t.data.toList.map ajs)=true):s=t:=by rw[sy]at a;exact ByteArray.ext (Array.toList_inj.1 (DQ (eq_of_beq a)))
theorem QI{a b:AV}(i:CX a b=true){x y:Value}(c:VR ρ a x)(d:VR ρ b y):x=y:=by
 unfold CX at i;split at i;·rw[c.oX,d.oX,eq_of_beq i]
 .simp only[ah4]at i;obtain⟨e,h1,rfl⟩:=c.iW;obtain⟨f,h2,rfl⟩:=d.iW;have:=ah5 i.1;have:=ue (h1.symm.trans (this.trans h2));have h3:=i.2;rw[dV]at h3;rw[this,eq_of_beq h3]
 .obtain⟨t1,h1,rfl⟩:=c.mP;obtain⟨g,h2,rfl⟩:=d.mP;subst h1;subst h2;rw[Iw i]
 cases i
theorem Ix:∀{l m:List AV},vN l m=true->∀{x y:List Value},aZ ρ l x->aZ ρ m y->x=y|[],[],_,[],[],_,_=>rfl|a::l,b::m,e,c::x,d::y,h1,h2=>by simp only[vN,ah4]at e;rw[QI e.1 h1.1 h2.1,Ix e.2 h1.2 h2.2]|[],_::_,e,_,_,_,_=>by simp[vN]at e|_::_,[],e,_,_,_,_=>by simp[vN]at e|[],[],_,_::_,_,e,_=>by simp[aZ]at e|[],[],_,[],_::_,_,e=>by simp[aZ]at e|_::_,_::_,_,[],_,e,_=>by simp[aZ]at e|_::_,_::_,_,_::_,[],_,e=>by simp[aZ]at e
theorem Iy{t:TypeId}{d:dA}(G:rc P t=some d){k:AV}{kv:Value}(m:VR ρ k kv):∀{es:List aW}{bB:List MapEntry}(i0 i:Nat)(v:AV),cr ρ es bB->findKey d k es i0=some (some (i0+i,v))->vO d k es i=true->∃c,bB[i]?=some c/\c.key=kv
 |[],[],i0,i,v,_,f,_=>by trivial
 |e::es,c::bB,i0,i,v,h1,f,hs=>by
  simp only[findKey]at f;cases i with
  |zero=>
   refine⟨c,rfl,?_⟩;split at f
   .rename_i he;have⟨kd,hu,g,hd⟩:=DY G;rcases hd with⟨rfl,rfl⟩|⟨A,rfl,rfl⟩|⟨rfl,rfl⟩|⟨l,rfl⟩;·unfold db at he;split at he<;>(try(rename_i g _;cases g;done))<;>(try(cases he;done));rename_i b;have a:=h1.1;rw[b]at a;injection he with he;rw[a.oX,m.oX,eq_of_beq he]
    .unfold db at he;split at he<;>(try(rename_i g _;cases g;done))<;>(try(cases he;done));rename_i b;have a:=h1.1;rw[b]at a;split at he;·rename_i n;injection he with he;rw[dV]at he;obtain⟨B,e1,rfl⟩:=m.iW;have⟨C,e2,o⟩:=a.iW;have:=ue (e1.symm.trans (n.trans e2));rw[o,this,eq_of_beq he]
     cases he
    .unfold db at he;split at he<;>(try(rename_i g _;cases g;done))<;>(try(cases he;done));rename_i b;have a:=h1.1;rw[b]at a;injection he with he;obtain⟨t1,e1,rfl⟩:=m.mP;have⟨D,e2,o⟩:=a.mP;subst e1;subst e2;rw[o,Iw he]
    simp only[vO]at hs;split at hs;·rename_i E F n p;have a:=h1.1;rw[p]at a;have⟨x,q,e1⟩:=m.rm;have⟨y,r,e2⟩:=a.rm;have:=Ix hs q r;rw[e1,e2,Array.toList_inj.1 this]
    .cases hs
    rename_i h2 _;exact(h2 _ rfl).elim
   .exfalso;have:∀(es:List aW)(j i:Nat)(v:AV),findKey d k es j=some (some (i,v))->j<=i:=by
     intro es;induction es with
     |nil=>intro j i v G;simp[findKey]at G
     |cons e es s=>
      intro j i v G;simp only[findKey]at G;split at G;·simp only[abv,ahW]at G;omega
      .have:=s _ _ _ G;omega
      cases G
    have:=this _ _ _ _ f;omega
   cases f
  |succ i=>
   split at f;·simp only[abv,ahW]at f;omega
   .obtain⟨u,w,z⟩:=Iy G m (i0+1) i v h1.2.2.2 (by rw[f];simp;omega) hs;exact⟨u,by simpa using w,z⟩
   cases f
 |[],_::_,_,_,_,h1,_,_=>by trivial
 |_::_,[],_,_,_,h1,_,_=>by trivial
end
section
variable{P:Program}{h:b8}{ρ:aM}{H H':ai}{w:World}{nt:Nat}{ac:az AV}{a:Act}{o:Oper}{ao:bJ}{v:AV}
def _root_.Go.Value.o0:Value->Bool
 |.int .. |.float .. |.complex .. |.string .. =>false
 |_=>true
def AV.o0:AV->Bool
 |.int .. |.str .. |.bM=>false
 |_=>true
theorem VR.o0{x:AV}{c:Value}(a:VR ρ x c)(k:x.o0=true):c.o0=true:=by cases x<;>cases c<;>first|(simp[VR]at a;done)|rfl|(simp[AV.o0]at k;done)
theorem QJ{x y:Value}(a:x.o0=true)(t:TypeId):binOp .eql t x y=(do pure (.bool (<-Op.equal t x y))):=by cases x<;>first|(simp[Value.o0]at a;done)|(cases y<;>rfl)
theorem QK{x y:Value}(a:x.o0=true)(t:TypeId):binOp .neq t x y=(do pure (.bool (!(<-Op.equal t x y)))):=by cases x<;>first|(simp[Value.o0]at a;done)|(cases y<;>rfl)
theorem QL{g:Nat}{d:dA}{x y:AV}{r:Bool}(a:db g d x y=some r)(h1:d≠.int)(h2:d≠.str):x.o0=true:=by unfold db at a;split at a<;>first|rfl|(exact absurd rfl h1)|(exact absurd rfl h2)|(cases a;done)
theorem D1{g:Nat}{d:dA}{x y:AV}{r:Bool}(a:db g d x y=some r):x.br=true/\y.br=true:=by unfold db at a;split at a<;>first|exact⟨rfl,rfl⟩|(cases a;done)
theorem Iz{f:Nat}{c:Bool}{t:TypeId}{d:dA}(i:iy P f c t=some d):(d=.int->∃k,P.underlying t=some (.int k))/\(d=.str->P.underlying t=some .string)/\(∀a e,d=.iface a e->a=c/\∃b,P.underlying t=some (.interface b)/\e=b.isEmpty):=by
 cases f with
 |zero=>simp[iy]at i
 |succ f=>
  unfold iy at i;split at i;all_goals(try(cases i;done))
  all_goals(rename_i hu)
  all_goals(try(injection i with i;subst i))
  all_goals(try(refine⟨λe=>?_,λe=>?_,λa g e=>?_⟩))
  all_goals(try(first|(cases e;done)|exact⟨_,hu⟩|exact hu))
  .split at i;·injection i with i;subst i;cases e
   cases i
  .split at i;·injection i with i;subst i;cases e
   cases i
  .split at i;·injection i with i;subst i;cases e
   cases i
  .injection e with e1 e2;exact⟨e1.symm,_,hu,e2.symm⟩
  .split at i;·cases i
   rw[af0]at i;obtain⟨_,_,i⟩:=i;subst i;cases e
  .split at i;·cases i
   rw[af0]at i;obtain⟨_,_,i⟩:=i;subst i;cases e
  .split at i;·cases i
   rw[af0]at i;obtain⟨_,_,i⟩:=i;subst i;cases e
  .split at i;·injection i with i;subst i;cases e
   cases i
  .split at i;·injection i with i;subst i;cases e
   cases i
  split at i;·injection i with i;subst i;cases e
  cases i
theorem QM{t:TypeId}{a:Array (String×TypeId)}(b:P.underlying t=some (.interface a))(n:Nat)(w:World):(Op.eqGuardIn (n+1) t .nilIface .nilIface).run P w=.ok (!a.isEmpty) w:=by simp[b,Op.eqGuardIn,Sem.run_bind,bQ,Result.andThen_ok,Sem.run_pure]
theorem QN{op:BinOp}{t:TypeId}{x y:Operand}{c j:AV}{e i:Value}(k:VR ρ c e)(m:VR ρ j i){g f:Nat}{d:dA}{r:Bool}(hd:iy P f (oS x||oS y) t=some d)(hg:vX P d t=true)(he:db g d c j=some r)(w:World):(eqGuard op t x y e i).run P w=.ok () w:=by
 have h0:op=.eql\/op=.neq\/(eqGuard op t x y e i).run P w=.ok () w:=by cases op<;>first|exact .inl rfl|exact .inr (.inl rfl)|exact .inr (.inr (by simp[eqGuard]))
 have h1:op=.eql\/op=.neq->(eqGuard op t x y e i)=eqGuard .eql t x y e i:=by rintro(rfl|rfl)<;>rfl
 have key:(eqGuard .eql t x y e i).run P w=.ok () w:=by
  unfold eqGuard;simp only[ait,acg,bF,pure_bind];split
  .have h1:c=.nilIface:=by have a:=(D1 he).1;cases c<;>first|rfl|(simp[AV.br]at a;done)|(simp[VR]at k)
   have h2:j=.nilIface:=by have a:=(D1 he).2;cases j<;>first|rfl|(simp[AV.br]at a;done)|(simp[VR]at m)
   subst h1;subst h2;unfold db at he;split at he<;>(try(rename_i a;cases a;done))<;>(try(rename_i a _;cases a;done))<;>(try(cases he;done));split at he
   .rename_i b;have⟨e1,p,e2,q⟩:=(Iz hd).2.2 _ _ rfl;subst e1;have n:p.isEmpty=true->(Op.eqGuardIn Op.maxDepth t .nilIface .nilIface).run P w=.ok false w:=λo=>by have:=QM e2 9999 w;rw[o]at this;exact this
    rw[q]at b;clear h0 h1 hd hg he k m;cases x<;>cases y<;>simp[oS]at b⊢<;>simp[n (by simpa using b)]
   cases he
  .obtain⟨s,h1⟩:∃l,c=.agg l:=by have a:=(D1 he).1;cases c<;>first|exact⟨_,rfl⟩|(simp[AV.br]at a;done)|(simp[VR]at k)
   subst h1;have:P.eqGuardType P.depth t=false:=by cases d with|dW l=>simpa[vX]using hg|_=>exfalso;clear h0 h1 hd hg k m;cases g<;>simp[db]at he
   simp[this]
  simp
 grind
theorem QO(B:dk P h ρ H w nt ac a){op:BinOp}{t:TypeId}{x y:Operand}{p:TypeId}(A:o.op=.binOp op t x y p){neg:Bool}{d:dA}{s u:aJ}(c:op=if neg then .neq else .eql)(hd:iy P 16 (oS x||oS y) t=some d)(hg:vX P d t=true)(h1:ff P nt x=some s)(h2:ff P nt y=some u)(l:∀k,P.underlying t≠some (.int k))(m:P.underlying t≠some .string)(he:aH (.eq neg d s u) ac H=some (v,H')):bC P h ρ w (execOp a.eval o) v H':=by
 have i:=B.gv h1;have z:=B.gv h2;simp only[aH,af0,ahW]at he;obtain⟨q,⟨r,j,rfl⟩,rfl,rfl⟩:=he;have g:=Iz hd;have b:=VR.o0 i (QL j (λe=>by obtain⟨k,g⟩:=g.1 e;exact l k g) (λe=>m (g.2.1 e)));have f:=AZ ρ 16 hd j i z 10000 w aa;have n:=QN (op:=op) (P:=P) i z hd hg j w;refine bC.val (c:=.bool (r !=neg)) (w':=w) ?_ (cI.bK B.I (by rfl));simp only[execOp,A,Sem.run_bind,n,Result.andThen_ok];cases neg;·simp[c,b,f,acg,bF,QJ,Op.equal,Op.maxDepth,Sem.run_bind,Result.andThen_ok,Sem.run_pure,Bool.bne_false]
 simp[c,b,f,bi,QK,Op.equal,Op.maxDepth,Sem.run_bind,Result.andThen_ok,Sem.run_pure,Bool.bne_true]
theorem cr.kz{k v:AV}{kv a:Value}(b:VR ρ k kv)(d:VR ρ v a):∀{es:List aW}{bB:List MapEntry}(i:Nat),cr ρ es bB->cr ρ (kz v k es i) (bB.modify i λe=>{e with key:=kv,val:=a})|[],[],i,_=>by simp[Go.al.kz,cr]|e::es,c::bB,0,f=>by simp_all[cr,Go.al.kz,List.modify_zero_cons]|e::es,c::bB,i+1,f=>by exact⟨f.1,f.2.1,f.2.2.1,cr.kz b d i f.2.2.2⟩|[],_::_,_,f=>by trivial|_::_,[],_,f=>by trivial
theorem cr.push{k v:AV}{kv a:Value}(n:Nat)(b:VR ρ k kv)(d:VR ρ v a):∀{es:List aW}{bB:List MapEntry},cr ρ es bB->cr ρ (es++[⟨k,v,n⟩]) (bB++[{key:=kv,val:=a,born:=n}])|[],[],_=>by trivial|e::es,c::bB,f=>by exact⟨f.1,f.2.1,f.2.2.1,cr.push n b d f.2.2.2⟩|[],_::_,f=>by trivial|_::_,[],f=>by trivial
theorem cr.erase:∀{es:List aW}{bB:List MapEntry}(i:Nat),cr ρ es bB->cr ρ (mK es i) (bB.eraseIdx i)|[],[],i,_=>by trivial|e::es,c::bB,0,a=>by simp_all[cr,mK,List.eraseIdx_cons_zero]|e::es,c::bB,i+1,a=>by exact⟨a.1,a.2.1,a.2.2.1,cr.erase i a.2.2.2⟩|[],_::_,_,a=>by trivial|_::_,[],_,a=>by trivial
theorem cr.pK(b:Nat):∀{es:List aW}{bB:List MapEntry}(i0 i:Nat),cr ρ es bB->pK b es i0=some i->i0<=i/\bB.findIdx? (λe=>(e.born:Int)==(b:Int))=some (i - i0)/\∃e c,es[i - i0]?=some e/\bB.find? (λe=>e.born==b)=some c/\VR ρ e.key c.key/\VR ρ e.val c.val
 |[],_,_,_,_,p=>by trivial
 |e::es,c::bB,i0,i,p,a=>by
  simp only[Go.al.pK]at a;split at a
  .rename_i hb;have hb:=ah5 hb;injection a with a;subst a;have d:c.born=b:=by rw[<-p.2.2.1];exact hb
   refine⟨afM _,by grind,e,c,aC,by grind,p.1,p.2.1⟩
  rename_i hb;have hb:¬e.born=b:=λq=>hb (by rw[q];exact aje _);have d:¬c.born=b:=by rw[<-p.2.2.1];exact hb
  have f:¬(c.born:Int)=(b:Int):=aa;have⟨g,j,k,l,m,n,o⟩:=cr.pK b (i0+1) i p.2.2.2 a;grind
 |_::_,[],_,_,p,_=>by trivial
theorem wt{b:Nat}(w:World){a:Obj}(g:w.heap[b]?=some a)(d:∀c e f,a≠.cells c e f)(o:Obj):(setObj b o).run P w=.ok () {w with heap:=w.heap.setIfInBounds b o}:=by cases a with|cells c e f=>grind|_=>simp[g,setObj,Sem.run]
theorem map_set(g:bo P h ρ H w){id:ah}{es:List aW}{a:Nat}(e:H.get id=.map es a){b:Nat}(hb:ρ id=some (b,0)){es':List aW}{ces':Array MapEntry}(he:cr ρ es' ces'.toList)(c:Nat)(d9:kB ces' c){w1:World}(e1:w1.heap=w.heap)(e2:w1.os=w.os)(i:w1.tape=w.tape)(j:w1.output=w.output):∃w',(setObj b (.map ces' c)).run P w1=.ok () w'/\bo P h ρ (H.set id (.map es' c)) w'/\dj h w w':=by
 have f:H.get id≠.none:=by rw[e];simp
 have⟨bB,d,_⟩:=sA g e hb;refine⟨_,wt w1 (by rw[e1];exact d) (λ_ _ _=>by simp) _,?_⟩;have:=g.oW (i:=id) (o':=.map es' c) (ob':=.map ces' c) f (by rw[e];rfl) hb rfl (by simp only[OR];exact⟨trivial,trivial,d9,he⟩) (by simp[eP]) (w':={w1 with heap:=w1.heap.setIfInBounds b (.map ces' c)}) (by simp only[e1]) e2 i j;rw[e]at this;exact this
theorem QP(k:Value)(w:World):∃w',(Instr.keyThatStays k k).run P w=.ok k w'/\w'.heap=w.heap/\w'.os=w.os/\w'.tape=w.tape/\w'.output=w.output:=by
 unfold Instr.keyThatStays;split;·simp
 cases a:(Question.extern "map.whichKeyStays" 2).forced;·exact⟨w.drew,by simp_all,rfl,rfl,rfl,rfl⟩
 simp_all
end
section
variable{P:Program}{f:b8}{ρ:aM}{H H':ai}{w:World}{nt:Nat}{ac:az AV}{a:Act}{v:AV}
theorem bo.congr(h:bo P f ρ H w){a:ai}(c:a.next=H.next)(hg:∀j,a.get j=H.get j):bo P f ρ a w:=⟨λi hi=>by rw[hg]at hi⊢;exact h.dp i hi,λi j b x y d hi hj=>by rw[hg]at hi hj;rw[hg,hg];exact h.ju i j b x y d hi hj,λi j hi=>by rw[hg]at hi⊢;rw[c];exact h.aK i j hi,λi b x hi e=>by rw[hg]at hi e;exact h.wr i b x hi e,λi hi=>by rw[c]at hi;rw[hg];exact h.dc i hi,h.new,h.kC,λi b x g hi=>by rw[hg]at hi⊢;exact h.iJ i b x g hi,h.d8,λi b x hi=>by rw[hg]at hi;exact h.rd i b x hi,λi hi=>by rw[hg,c];exact⟨(h.un i hi).1,(h.un i hi).2.1,λj=>by rw[hg];exact(h.un i hi).2.2 j⟩,h.dM⟩
theorem D3{w:World}{b:Nat}{a:Obj}(h:w.heap[b]?=some a):w.heap.setIfInBounds b a=w.heap:=by grind
theorem bo.IA(h:bo P f ρ H w){i:ah}{c:bP}(hi:H.get i≠.none)(j:(H.get i).jL=false)(k:(H.get i).aK=[])(d:c.aK=[])(l:∀x a,OR P ρ (H.get i) x a->OR P ρ c x a/\∀q,eP P q c a):bo P f ρ (H.set i c) w:=by have⟨b,x,a,e,hl,hb,g⟩:=h.aE hi;have⟨h1,h2⟩:=l x a g;have:=(h.oW (w':=w) hi j e d h1 (h2 _) (by rw[D3 hb]) rfl rfl rfl).1;rw[k]at this;exact this
def aW.kv(e:aW):AV×AV:=(e.key,e.val)
theorem cX.bV{es:List aW}{l m:List MapEntry}(d:l.Perm m):cX ρ es l->∃a,a.Perm es/\cX ρ a m:=by
 induction d generalizing es with
 |nil=>intro h;exact⟨es,ajN _,h⟩
 |cons x _ g=>intro h;cases es with|nil=>simp[cX]at h|cons e es=>simp only[cX]at h;have⟨a,p,q⟩:=g h.2.2;exact⟨e::a,p.cons e,by simp only[cX];exact⟨h.1,h.2.1,q⟩⟩
 |swap x y r=>intro h;match es,h with|[],h=>simp[cX]at h|[_],h=>simp[cX]at h|e1::e2::es,h=>simp only[cX]at h;exact⟨e2::e1::es,aiK ..,by simp only[cX];exact⟨h.2.2.1,h.2.2.2.1,h.1,h.2.1,h.2.2.2.2⟩⟩
 |trans _ _ b c=>intro h;have⟨e1,p1,i⟩:=b h;have⟨e2,p2,j⟩:=c i;exact⟨e2,p2.trans p1,j⟩
theorem cX.A0{es a:List aW}(g:es.Perm a):∀{l:List MapEntry},cX ρ es l->∃b,b.Perm l/\cX ρ a b:=by
 induction g with
 |nil=>intro l h;exact⟨l,ajN _,h⟩
 |cons x _ i=>intro l h;cases l with|nil=>simp[cX]at h|cons c l=>simp only[cX]at h;have⟨b,p,q⟩:=i h.2.2;exact⟨c::b,p.cons c,by simp only[cX];exact⟨h.1,h.2.1,q⟩⟩
 |swap x y r=>intro l h;match l,h with|[],h=>simp[cX]at h|[_],h=>simp[cX]at h|c1::c2::l,h=>simp only[cX]at h;exact⟨c2::c1::l,aiK ..,by simp only[cX];exact⟨h.2.2.1,h.2.2.2.1,h.1,h.2.1,h.2.2.2.2⟩⟩
 |trans _ _ d e=>intro l h;have⟨e1,p1,j⟩:=d h;have⟨e2,p2,k⟩:=e j;exact⟨e2,p2.trans p1,k⟩
theorem cX.kv:∀{es a:List aW}{m:List MapEntry},es.map aW.kv=a.map aW.kv->cX ρ es m->cX ρ a m
 |[],[],m,_,h=>h
 |e::es,d::a,m,b,h=>by simp only[ah2,aik,aW.kv,ahW]at b;cases m with|nil=>trivial|cons c m=>simp only[cX]at h⊢;rw[<-b.1.1,<-b.1.2];exact⟨h.1,h.2.1,cX.kv b.2 h.2.2⟩
 |[],_::_,_,b,_=>by grind
 |_::_,[],_,b,_=>by grind
def wu:List aW->List MapEntry->List aW
 |e::es,c::m=>{e with born:=c.born}::wu es m
 |_,_=>[]
theorem cX.exact:∀{es:List aW}{m:List MapEntry},cX ρ es m->cr ρ (wu es m) m/\(wu es m).map aW.kv=es.map aW.kv|[],[],_=>by trivial|e::es,c::m,h=>by have⟨h1,h2⟩:=cX.exact h.2.2;simp only[wu,cr,ah2,h2];exact⟨⟨h.1,h.2.1,aC,h1⟩,by rfl⟩|[],_::_,h=>by trivial|_::_,[],h=>by trivial
theorem cr.open:∀{es:List aW}{m:List MapEntry},cr ρ es m->cX ρ es m|[],[],_=>by trivial|e::es,c::m,h=>by exact⟨h.1,h.2.1,cr.open h.2.2.2⟩|[],_::_,h=>by trivial|_::_,[],h=>by trivial
theorem IB(h:bo P f ρ H w){id:ah}{es:List aW}(g:H.get id=.cS es):∃(c i:List aW)(a:Nat),c.Perm es/\i.map aW.kv=c.map aW.kv/\bo P f ρ (H.set id (.map i a)) w:=by obtain⟨b,x,j,e,hl,hb,d⟩:=h.aE (i:=id) (by rw[g];simp);rw[g]at d;cases j<;>simp only[OR]at d;rename_i bB a;obtain⟨rfl,d9,l,h1,h2⟩:=d;have⟨c,p1,p2⟩:=cX.bV h1 h2;have⟨p3,p4⟩:=cX.exact p2;refine⟨c,wu c bB.toList,a,p1,p4,?_⟩;have:=(h.oW (i:=id) (o':=.map (wu c bB.toList) a) (ob':=.map bB a) (w':=w) (by rw[g];simp) (by rw[g];rfl) e rfl (by simp only[OR];exact⟨trivial,trivial,d9,p3⟩) (by simp[eP]) (by rw[D3 hb]) rfl rfl rfl).1;rw[g]at this;exact this
theorem D4(h:bo P f ρ H w){id:ah}{c es d:List aW}{b:Nat}(e:H.get id=.map c b)(g:d.Perm es)(i:c.map aW.kv=d.map aW.kv):bo P f ρ (H.set id (.cS es)) w:=by refine h.IA (by rw[e];simp) (by rw[e];rfl) (by rw[e];rfl) rfl ?_;intro x j a;rw[e]at a;cases j<;>simp only[OR]at a⊢;obtain⟨rfl,rfl,d9,h3⟩:=a;have⟨l,p1,p2⟩:=cX.A0 g (cX.kv i (cr.open h3));exact⟨⟨by trivial,d9,l,p1,p2⟩,λq=>by simp[eP]⟩
theorem IC{d:dA}{k:AV}:∀{es a:List aW},es.map aW.kv=a.map aW.kv->eN.go d k es=eN.go d k a|[],[],_=>rfl|e::es,b::a,h=>by simp only[ah2,aik,aW.kv,ahW]at h;simp only[eN.go,IC h.2,h.1.1,h.1.2]|[],_::_,h=>by grind|_::_,[],h=>by grind
theorem QQ{d:dA}{k:AV}{es a:List aW}(h:es.Perm a):eN.go d k es=eN.go d k a:=by
 induction h with
 |nil=>rfl
 |cons x _ g=>simp only[eN.go,g]
 |swap x y r=>
  simp only[eN.go];cases h1:db 64 d k x.key with
  |none=>cases h2:db 64 d k y.key with|none=>simp|some b=>cases b<;>simp
  |some q=>cases h2:db 64 d k y.key with|none=>cases q<;>simp|some b=>cases h3:eN.go d k r with|none=>cases q<;>cases b<;>simp|some r=>cases r<;>cases q<;>cases b<;>simp
 |trans _ _ c e=>exact c.trans e
theorem ID{d:dA}{k v:AV}:∀{es a:List aW},es.map aW.kv=a.map aW.kv->(j7 d k v es).map aW.kv=(j7 d k v a).map aW.kv
 |[],[],_=>rfl
 |e::es,b::a,h=>by
  simp only[ah2,aik,aW.kv,ahW]at h;have:kO d k e=kO d k b:=by simp only[kO,h.1.1]
  simp only[j7,ah2,ID h.2,this,aik,and_true];grind[aW.kv]
 |[],_::_,h=>by grind
 |_::_,[],h=>by grind
theorem A3{d:dA}{k:AV}:∀{es a:List aW},es.map aW.kv=a.map aW.kv->(kP d k es).map aW.kv=(kP d k a).map aW.kv
 |[],[],_=>rfl
 |e::es,b::a,h=>by
  simp only[ah2,aik,aW.kv,ahW]at h;have:kO d k e=kO d k b:=by simp only[kO,h.1.1]
  simp only[kP,this];split;·exact A3 h.2
  simp only[ah2,A3 h.2,aik,and_true];simp[h,aW.kv]
 |[],_::_,h=>by grind
 |_::_,[],h=>by grind
theorem QR(d:dA)(k v:AV)(es:List aW):j7 d k v es=es.map λe=>if kO d k e then{e with key:=k,val:=v}else e:=by induction es with|nil=>rfl|cons e es a=>simp[a,j7,ah2]
theorem QS(d:dA)(k:AV)(es:List aW):kP d k es=es.filter λe=>!kO d k e:=by induction es with|nil=>rfl|cons e es a=>simp only[kP,List.filter_cons,a];cases kO d k e<;>simp
theorem QT(d:dA)(k v:AV){es a:List aW}(h:es.Perm a):(j7 d k v es).Perm (j7 d k v a):=by grind[QR]
theorem IE(d:dA)(k:AV){es a:List aW}(h:es.Perm a):(kP d k es).Perm (kP d k a):=by grind[QS]
theorem ww{d:dA}{k v:AV}:∀{es:List aW},eN.go d k es=some none->j7 d k v es=es/\kP d k es=es/\∀i,findKey d k es i=some none
 |[],_=>⟨rfl,rfl,λ_=>rfl⟩
 |e::es,h=>by
  simp only[eN.go]at h;split at h;·grind
  .rename_i r h1 h2;injection h with h;subst h;have⟨a,b,c⟩:=ww (v:=v) h2;simp[h1,a,b,c,kO,j7,kP,findKey]
  grind
theorem A4{d:dA}{k v x:AV}:∀{es:List aW},eN.go d k es=some (some x)->∀i0,∃i,findKey d k es i0=some (some (i0+i,x))/\i<es.length/\kz v k es i=j7 d k v es/\mK es i=kP d k es
 |[],h,_=>by simp_all[eN.go]
 |e::es,h,i0=>by
  simp only[eN.go]at h;split at h;·rename_i h1 h2;injection h with h;injection h with h;subst h;have⟨a,b,_⟩:=ww (v:=v) h2;simp[h1,a,b,kO,findKey,kz,j7,bi,mK,kP]
  .rename_i r h1 h2;injection h with h;subst h;have⟨i,a,b,c,g⟩:=A4 (v:=v) h2 (i0+1);have:kO d k e=false:=by simp[kO,h1]
   refine⟨i+1,by grind[findKey],by grind,?_,?_⟩;all_goals simp[this,c,g,kz,j7,mK,kP]
  grind
theorem D5{d:dA}(hd:qV d=true)(k:AV):∀(es:List aW)(i:Nat),i<es.length->vO d k es i=true
 |[],i,h=>by grind
 |e::es,0,_=>by cases d<;>first|rfl|(simp[qV]at hd)
 |e::es,i+1,h=>by exact D5 hd k es i (by grind)
def bJ.IF:bJ->Option aJ
 |.lookup _ _ _ m _|.jI _ m _ _|.delete _ m _=>some m
 |_=>none
def uj(ac:az AV)(H:ai)(ao:bJ):Prop:=∀a id es,ao.IF=some a->gv ac a=.map id->H.get id≠.cS es
theorem D6{s:Sem Next}{ao:bJ}(n:∀{L H1:ai}{v:AV},bo P f ρ L w->uj ac L ao->aH ao ac L=some (v,H1)->bC P f ρ w s v H1)(Q:bo P f ρ H w)(he:aH ao ac H=some (v,H')):bC P f ρ w s v H':=by
 by_cases M:uj ac H ao;·exact n Q M he
 simp only[uj,Classical.not_forall,not_imp,ne_eq,ajj]at M;have⟨N,id,es,A,B,I⟩:=M;have⟨D,b,a,F,G,p⟩:=IB Q I;have t:uj ac (H.set id (.map b a)) ao:=by intro ag av E h1 h2;rw[A]at h1;injection h1 with h1;subst h1;rw[B]at h2;injection h2 with h2;subst h2;rw[ai.aF,aG rfl];simp
 have hg:(H.set id (.map b a)).get id=.map b a:=by rw[ai.aF,aG rfl]
 have l:∀{v:AV}{esy es1 E:List aW}{c:Nat}{H1 J:ai},bC P f ρ w s v H1->H1.get id=.map esy c->(∀j,j≠id->H1.get j=H.get j)->H1.next=H.next->es1.Perm E->esy.map aW.kv=es1.map aW.kv->J.get id=.cS E->(∀j,j≠id->J.get j=H.get j)->J.next=H.next->bC P f ρ w s v J:=by
  intro v esy es1 E c H1 J R S T V W X Y Z g8;have⟨q,w',hr,O,x1,x2,x3,x4⟩:=R;refine⟨q,w',hr,O,x1,x2,(D4 x3 S W X).congr (by rw[g8];exact V.symm) ?_,x4⟩;intro j;rw[ai.aF];by_cases e:j=id;·subst e;rw[aG rfl,Y]
  rw[an e,T j e,Z j e]
 have o:∀d k,eN d k es=eN d k b:=by
  intro d k;unfold eN;split;·rw[<-QQ F,<-IC G]
  rfl
 have g:∀{d:dA}{k:AV}{r:Option AV},eN d k b=some r->qV d=true/\eN.go d k b=some r:=by
  intro d k r h;unfold eN at h;split at h;·exact⟨by assumption,h⟩
  cases h
 cases ao<;>simp only[bJ.IF,abv,reduceCtorEq]at A;all_goals subst A
 case lookup d z ok N k=>
  simp only[aH]at he;split at he;·cases he
  rename_i m;simp only[B,I,o]at he;split at he;·rename_i x C;have⟨h1,h2⟩:=g C;have⟨i,u,_⟩:=A4 (v:=x) h2 0;obtain⟨rfl,rfl⟩:=he;refine l (n p t (v:=if ok=true then .tuple [x,.bool true]else x) (H1:=H.set id (.map b a)) ?_) hg (λj hj=>by rw[ai.aF,an hj]) rfl F G I (λ_ _=>rfl) rfl;simp only[aH,B,hg,u,m,acg,bF]
  .rename_i C;have⟨h1,h2⟩:=g C;have⟨_,_,u⟩:=ww (v:=z) h2;obtain⟨rfl,rfl⟩:=he;refine l (n p t (v:=if ok=true then .tuple [z,.bool false]else z) (H1:=H.set id (.map b a)) ?_) hg (λj hj=>by rw[ai.aF,an hj]) rfl F G I (λ_ _=>rfl) rfl;simp only[aH,B,hg,u,m,acg,bF]
  cases he
 case jI d N k x=>
  simp only[aH]at he;split at he;·cases he
  rename_i m;simp only[B,I,o]at he;split at he;·rename_i y C;have⟨h1,h2⟩:=g C;have⟨i,u,K,f3,_⟩:=A4 (v:=gv ac x) h2 0;obtain⟨rfl,rfl⟩:=he;refine l (esy:=kz (gv ac x) (gv ac k) b i) (es1:=j7 d (gv ac k) (gv ac x) D) (c:=a) (n p t (v:=.ajS) (H1:=(H.set id (.map b a)).set id (.map (kz (gv ac x) (gv ac k) b i) a)) ?_) (by rw[ai.aF,aG rfl]) (λj hj=>by rw[ai.aF,an hj,ai.aF,an hj]) rfl (QT d _ _ F) (by rw[f3];exact ID G) (by rw[ai.aF,aG rfl]) (λj hj=>by rw[ai.aF,an hj]) rfl;simp only[aH,B,hg,u,m,acg,bF,aif,D5 h1 _ _ _ K,bi]
  .rename_i C;have⟨h1,h2⟩:=g C;have⟨_,_,u⟩:=ww (v:=gv ac x) h2;obtain⟨rfl,rfl⟩:=he;refine l (esy:=b++[⟨gv ac k,gv ac x,a⟩]) (es1:=D++[⟨gv ac k,gv ac x,0⟩]) (c:=a+1) (n p t (v:=.ajS) (H1:=(H.set id (.map b a)).set id (.map (b++[⟨gv ac k,gv ac x,a⟩]) (a+1))) ?_) (by rw[ai.aF,aG rfl]) (λj hj=>by rw[ai.aF,an hj,ai.aF,an hj]) rfl (F.append_right _) (by simp[G,aW.kv]) (by rw[ai.aF,aG rfl]) (λj hj=>by rw[ai.aF,an hj]) rfl;simp only[aH,B,hg,u,m,acg,bF]
  cases he
 case delete d N k=>
  simp only[aH]at he;split at he;·cases he
  rename_i m;simp only[B,I,o]at he;split at he;·rename_i r C;have⟨h1,h2⟩:=g C;obtain⟨rfl,rfl⟩:=he;cases r with|some y=>have⟨i,u,K,_,f4⟩:=A4 (v:=gv ac k) h2 0;refine l (esy:=mK b i) (es1:=kP d (gv ac k) D) (c:=a) (n p t (v:=.ajS) (H1:=(H.set id (.map b a)).set id (.map (mK b i) a)) ?_) (by rw[ai.aF,aG rfl]) (λj hj=>by rw[ai.aF,an hj,ai.aF,an hj]) rfl (IE d _ F) (by rw[f4];exact A3 G) (by rw[ai.aF,aG rfl]) (λj hj=>by rw[ai.aF,an hj]) rfl;simp only[aH,B,hg,u,m,acg,bF,aif]|none=>have⟨_,K,u⟩:=ww (v:=gv ac k) h2;refine l (esy:=b) (es1:=kP d (gv ac k) D) (c:=a) (n p t (v:=.ajS) (H1:=(H.set id (.map b a)).set id (.map b a)) ?_) (by rw[ai.aF,aG rfl]) (λj hj=>by rw[ai.aF,an hj,ai.aF,an hj]) rfl (IE d _ F) (by rw[<-A3 G,K]) (by rw[ai.aF,aG rfl]) (λj hj=>by rw[ai.aF,an hj]) rfl;simp only[aH,B,hg,u,m,acg,bF]
  cases he
end
section
variable{P:Program}{f:b8}{ρ:aM}{H H':ai}{w:World}{nt:Nat}{ac:az AV}{a:Act}{o:Oper}{ao:bJ}{v:AV}
theorem QU(h:dk P f ρ H w nt ac a){t:TypeId}{m k:Operand}{ok:Bool}(D:o.op=.lookup t m k ok)(g:bL P nt o=some ao)(S:uj ac H ao)(he:aH ao ac H=some (v,H')):bC P f ρ w (execOp a.eval o) v H':=by
 simp only[bL,D,afN,ab1]at g;obtain⟨d,hd,g⟩:=g;split at g
 .rename_i W e;simp only[ab1,ahZ,abv]at g;obtain⟨kd,n,z,T,X,h1,N,h2,rfl⟩:=g;obtain⟨zv,B,C,V⟩:=sx T;have E:=h.gv h1;have F:=h.gv h2;simp only[aH]at he;split at he;·cases he
  rename_i r;have r:iH kd (gv ac N)=true:=by simpa using r
  have s:=λem w=>D0 n r F em (P:=P) w;have l:∀{c:Value},VR ρ z c->VR ρ (if ok=true then .tuple [z,.bool false]else z) (if ok=true then .tuple #[c,.bool false]else c):=by
   intro c g;cases ok;·exact g
   simp[VR,aZ,g]
  have u:∀{x:AV}{c:Value},VR ρ x c->VR ρ (if ok=true then .tuple [x,.bool true]else x) (if ok=true then .tuple #[c,.bool true]else c):=by
   intro x c g;cases ok;·exact g
   simp[VR,aZ,g]
  split at he
  .rename_i G;simp only[abv,ahW]at he;obtain⟨rfl,rfl⟩:=he;rw[G]at E;have J:=E.sw;have⟨q,y,A⟩:=ui (P:=P) n F w (es:=[]) (bB:=[]) (by simp[cr]) (r:=none) rfl;have K:q=none:=by cases q<;>simp_all[FR]
   subst K;refine bC.val (c:=if ok=true then .tuple #[zv,.bool false]else zv) (w':=w) ?_ (cI.bK h.I (l (C ρ)));simp only[execOp,D,Instr.lookup,Sem.run_bind,bQ hd,Result.andThen_ok,J,Sem.run_pure,s,y,B]
  .rename_i id G;rw[G]at E;have⟨b,hb,J⟩:=E.oY;split at he
   .rename_i es O L;have⟨bB,Q,R⟩:=sA h.I L hb;split at he
    .rename_i i x M;simp only[abv,ahW]at he;obtain⟨rfl,rfl⟩:=he;have⟨q,y,A⟩:=ui (P:=P) n F w R M;obtain⟨⟨j,c⟩,rfl⟩:∃p,q=some p:=by cases q with|none=>simp[FR]at A|some p=>exact⟨p,rfl⟩
     simp only[FR]at A;refine bC.val (c:=if ok=true then .tuple #[c,.bool true]else c) (w':=w) ?_ (cI.bK h.I (u A.2.1));simp only[execOp,D,Instr.lookup,Sem.run_bind,bQ hd,Result.andThen_ok,J,Sem.run_pure,s,y,oZ Q]
    .rename_i M;simp only[abv,ahW]at he;obtain⟨rfl,rfl⟩:=he;have⟨q,y,A⟩:=ui (P:=P) n F w R M;have K:q=none:=by cases q<;>simp_all[FR]
     subst K;refine bC.val (c:=if ok=true then .tuple #[zv,.bool false]else zv) (w':=w) ?_ (cI.bK h.I (l (C ρ)));simp only[execOp,D,Instr.lookup,Sem.run_bind,bQ hd,Result.andThen_ok,J,Sem.run_pure,s,y,oZ Q,B]
    cases he
   .rename_i es L;exact absurd L (S _ _ _ rfl G)
   cases he
  cases he
 grind
theorem QV(h:dk P f ρ H w nt ac a){t:TypeId}{m k:Operand}{ok:Bool}(b:o.op=.lookup t m k ok)(c:bL P nt o=some ao)(he:aH ao ac H=some (v,H')):bC P f ρ w (execOp a.eval o) v H':=D6 (λd e he=>QU ⟨h.E,d⟩ b c e he) h.I he
theorem bC.skip{s:Sem Next}{w':World}(h:s.run P w=.ok .skip w')(a:cI P f ρ w v H' undef w'):bC P f ρ w s v H':=⟨undef,w',.inr ⟨h,rfl⟩,a⟩
theorem IG{n i:Nat}{x:AV}{a:Option (Nat×Value)}(h:FR ρ n (some (i,x)) a):∃c,a=some (i,c)/\VR ρ x c/\i<n:=by cases a with|none=>trivial|some p=>obtain⟨j,c⟩:=p;obtain⟨rfl,h2,h3⟩:=h;grind
theorem IH{n:Nat}{a:Option (Nat×Value)}(h:FR ρ n none a):a=none:=by grind[FR]
theorem QW(h:dk P f ρ H w nt ac a){t:TypeId}{m k x:Operand}(n:o.op=.mapUpdate t m k x\/o.op=.insert t m k x)(p:bL P nt o=some ao)(W:uj ac H ao)(he:aH ao ac H=some (v,H')):bC P f ρ w (execOp a.eval o) v H':=by
 have N:∃d,gz P t=some d/\∃E e,d=.map E e/\∃kd,rc P E=some kd/\∃y,ff P nt m=some y/\∃j,ff P nt k=some j/\∃q,ff P nt x=some q/\ao=.jI kd y j q:=by rcases n with n|n<;>simp only[bL,n,afN,ab1]at p<;>obtain⟨d,hd,p⟩:=p<;>refine⟨d,hd,?_⟩<;>split at p<;>(try(cases p;done))<;>simp only[ab1,ahZ,abv]at p<;>obtain⟨kd,l,y,h1,j,h2,q,h3,X⟩:=p<;>exact⟨_,_,rfl,kd,l,y,h1,j,h2,q,h3,X.symm⟩
 obtain⟨d,hd,E,e,rfl,kd,l,y,h1,j,h2,q,h3,rfl⟩:=N;have A:(execOp a.eval o)=(do Instr.mapUpdate t (a.eval m) (a.eval k) (a.eval x);pure .skip):=by rcases n with n|n<;>simp only[execOp,n]
 have Q:=h.gv h1;have u:=h.gv h2;have R:=h.gv h3;simp only[aH]at he;split at he;·grind
 rename_i s;have s:iH kd (gv ac j)=true:=by simpa using s
 have B:=λem w=>D0 l s u em (P:=P) w;split at he
 .rename_i id S;rw[S]at Q;have⟨b,hb,T⟩:=Q.oY;split at he
  .rename_i es g r;have⟨bB,D,z⟩:=sA h.I r hb;split at he
   .rename_i i Y F;split at he;case isFalse=>grind
    rename_i O;obtain⟨rfl,rfl⟩:=he;have⟨Z,G,J⟩:=ui (P:=P) l u w z F;obtain⟨c,rfl,f3,f4⟩:=IG J;have⟨ce,V,q2⟩:=Iy l u 0 i Y z (by grind) O;have⟨w1,r1,r2,r3,r4,r5⟩:=QP (P:=P) (a.eval k) w;have⟨w',K,L,M⟩:=map_set (P:=P) h.I r hb (es':=kz (gv ac q) (gv ac j) es i) (ces':=bB.modify i λe=>{e with key:=a.eval k,val:=a.eval x}) (by simp[u,R,z,Array.toList_modify,cr.kz]) g (kB.modify (AT h.I r hb D) i (λ_=>rfl)) r2 r3 r4 r5;refine bC.skip (w':=w') ?_ ⟨ρ,bZ.refl ρ,VR.ajS ρ,L,M⟩;have C:((bB[i]?).map (·.key)).getD (a.eval k)=a.eval k:=by rw[Array.getElem?_toList]at V;rw[V];simpa using q2
    simp only[A,Instr.mapUpdate,Sem.run_bind,bQ hd,Result.andThen_ok,T,Sem.run_pure,B,G,oZ D,C,r1,K]
   .rename_i F;obtain⟨rfl,rfl⟩:=he;have⟨Z,G,J⟩:=ui (P:=P) l u w z F;have:=IH J;subst this;have⟨w',K,L,M⟩:=map_set (P:=P) h.I r hb (es':=es++[⟨gv ac j,gv ac q,g⟩]) (ces':=bB.push {key:=a.eval k,val:=a.eval x,born:=g}) (by simp[u,R,z,Array.toList_push,cr.push]) (g+1) (kB.push (AT h.I r hb D) rfl) (w1:=w) rfl rfl rfl rfl;refine bC.skip (w':=w') ?_ ⟨ρ,bZ.refl ρ,VR.ajS ρ,L,M⟩;simp only[A,Instr.mapUpdate,Sem.run_bind,bQ hd,Result.andThen_ok,T,Sem.run_pure,B,G,oZ D,K]
   grind
  .rename_i es r;exact absurd r (W _ _ _ rfl S)
  grind
 grind
theorem II(h:dk P f ρ H w nt ac a){t:TypeId}{m k x:Operand}(b:o.op=.mapUpdate t m k x\/o.op=.insert t m k x)(c:bL P nt o=some ao)(he:aH ao ac H=some (v,H')):bC P f ρ w (execOp a.eval o) v H':=D6 (λd e he=>QW ⟨h.E,d⟩ b c e he) h.I he
theorem QX(h:dk P f ρ H w nt ac a){c:Call}(O:o.op=.call c)(hb:c.callee=.builtin .delete)(r:bL P nt o=some ao)(Q:uj ac H ao)(he:aH ao ac H=some (v,H')):bC P f ρ w (execOp a.eval o) v H':=by
 simp only[bL,O,hb,afN,ab1]at r;have⟨t,B,d,hd,r⟩:=r;have⟨A,k⟩:=uh (P:=P) (a:=a) O hb w;split at r
 .simp only[ab1,ahZ,abv]at r;obtain⟨kd,l,V,⟨R,L,h1⟩,M,⟨S,N,h2⟩,rfl⟩:=r;have s:=h.gv h1;have C:=h.gv h2;have m:(c.args.map a.eval)[0]?=some (a.eval R):=by simp[L]
  have n:(c.args.map a.eval)[1]?=some (a.eval S):=by simp[N]
  simp only[aH]at he;split at he;·grind
  rename_i p;have p:iH kd (gv ac M)=true:=by simpa using p
  have q:=λem w=>D0 l p C em (P:=P) w;split at he;·rename_i u;obtain⟨rfl,rfl⟩:=he;rw[u]at s;have x:=s.sw;refine bC.val (c:=.tuple #[]) (w':=w) ?_ (cI.bK h.I (VR.ajS ρ));rw[k];simp only[builtin,Builtin.delete_,B,m,n,Sem.run_bind,bQ hd,Result.andThen_ok,x,q,Sem.run_pure]
  .rename_i id u;rw[u]at s;have⟨b,e,x⟩:=s.oY;split at he
   .rename_i es g j;have⟨bB,y,z⟩:=sA h.I j e;split at he;·rename_i i W D;obtain⟨rfl,rfl⟩:=he;have⟨T,E,F⟩:=ui (P:=P) l C w z D;obtain⟨X,rfl,Y,Z⟩:=IG F;have⟨w',G,J,K⟩:=map_set (P:=P) h.I j e (es':=mK es i) (ces':=bB.eraseIdxIfInBounds i) (by simp[z,Array.toList_eraseIdxIfInBounds,cr.erase]) g (kB.erase (AT h.I j e y) i) (w1:=w) rfl rfl rfl rfl;refine bC.val (c:=.tuple #[]) (w':=w') ?_ ⟨ρ,bZ.refl ρ,VR.ajS ρ,J,K⟩;rw[k];simp only[builtin,Builtin.delete_,B,m,n,Sem.run_bind,bQ hd,Result.andThen_ok,x,q,Sem.run_pure,oZ y,E,G]
    .rename_i D;obtain⟨rfl,rfl⟩:=he;have⟨T,E,F⟩:=ui (P:=P) l C w z D;have:=IH F;subst this;have⟨w',G,J,K⟩:=map_set (P:=P) h.I j e (es':=es) (ces':=bB) z g (AT h.I j e y) (w1:=w) rfl rfl rfl rfl;refine bC.val (c:=.tuple #[]) (w':=w') ?_ ⟨ρ,bZ.refl ρ,VR.ajS ρ,J,K⟩;rw[k];simp only[builtin,Builtin.delete_,B,m,n,Sem.run_bind,bQ hd,Result.andThen_ok,x,q,Sem.run_pure,oZ y,E,G]
    grind
   .rename_i es j;exact absurd j (Q _ _ _ rfl u)
   grind
  grind
 grind
theorem QY(h:dk P f ρ H w nt ac a){c:Call}(b:o.op=.call c)(hb:c.callee=.builtin .delete)(d:bL P nt o=some ao)(he:aH ao ac H=some (v,H')):bC P f ρ w (execOp a.eval o) v H':=D6 (λe g he=>QX ⟨h.E,e⟩ b hb d g he) h.I he
end
section
variable{P:Program}{g:b8}{ρ:aM}{H H':ai}{w:World}{nt:Nat}{ac:az AV}{a:Act}{o:Oper}{ao:bJ}{v:AV}
theorem QZ(h:dk P g ρ H w nt ac a){t:TypeId}{x:Operand}(u:o.op=.range t x)(f:bL P nt o=some ao)(he:aH ao ac H=some (v,H')):bC P g ρ w (execOp a.eval o) v H':=by
 simp only[bL,u,afN,ab1]at f;have⟨d,hd,f⟩:=f;split at f
 .simp only[ab1,ahZ,abv]at f;obtain⟨z,h1,rfl⟩:=f;have i:=h.gv h1;simp only[aH]at he;split at he
  .rename_i s k;obtain⟨rfl,rfl⟩:=he;rw[k]at i;have⟨t',D,l⟩:=i.mP;have⟨n,p,q⟩:=h.I.alloc (o:=.ky s s 0) (ob:=.stringIter t' 0) (0,0) (by trivial) aC rfl (by trivial);refine bC.val (c:=.pointer (some ⟨w.heap.size,0,none⟩)) (w':={w with heap:=w.heap.push (.stringIter t' 0)}) ?_ ⟨_,n,?_,p,q⟩;·simp only[execOp,u,Instr.range,Sem.run_bind,bQ hd,Result.andThen_ok,l,Sem.run_pure,run_newObj]
   simp[VR,aM.eA]
  grind
 .simp only[ab1,ahZ,abv]at f;obtain⟨z,h1,rfl⟩:=f;have i:=h.gv h1;simp only[aH]at he;split at he
  .rename_i k;obtain⟨rfl,rfl⟩:=he;rw[k]at i;have l:=i.sw;have⟨n,p,q⟩:=h.I.alloc (o:=.mapIter none 0 [] 0) (ob:=.mapIter none 0 #[] 0) (0,0) (by trivial) aC rfl (by trivial);refine bC.val (c:=.pointer (some ⟨w.heap.size,0,none⟩)) (w':={w with heap:=w.heap.push (.mapIter none 0 #[] 0)}) ?_ ⟨_,n,?_,p,q⟩;·simp only[execOp,u,Instr.range,Sem.run_bind,bQ hd,Result.andThen_ok,l,Sem.run_pure,run_newObj]
   simp[VR,aM.eA]
  .rename_i m k;rw[k]at i;have⟨b,hb,l⟩:=i.oY;split at he
   .rename_i es e A;obtain⟨rfl,rfl⟩:=he;have⟨bB,B,E⟩:=sA h.I A hb;have r:bZ ρ (ρ.add H.next w.heap.size 0 (0,0)):=aM.pQ _ _ _ (h.I.dc _ (afM _)).2 (λj c y C f=>by have:=h.I.d8 j c y C;omega);obtain⟨n,p,q⟩:=h.I.alloc (o:=.mapIter (some m) e [] e) (ob:=.mapIter (some b) e #[] e) (0,0) (by trivial) aC rfl (by simp only[OR];exact⟨trivial,by exact(r _ _ hb).1,aC,aC,aC⟩);refine bC.val (c:=.pointer (some ⟨w.heap.size,0,none⟩)) (w':={w with heap:=w.heap.push (.mapIter (some b) e #[] e)}) ?_ ⟨_,n,?_,p,q⟩;·simp only[execOp,u,Instr.range,Sem.run_bind,bQ hd,Result.andThen_ok,l,Sem.run_pure,run_newObj,oZ B]
    simp[VR,aM.eA]
   grind
  grind
 grind
theorem wx{b:Nat}{a:Obj}(h:w.heap[b]?=some a)(d:∀c e f,a≠.cells c e f):(getObj b).run P w=.ok a w:=by cases a with|cells c e f=>grind|_=>simp[h,getObj,Sem.run]
theorem Q0(h:dk P g ρ H w nt ac a){G:Operand}{e:Bool}(y:o.op=.next G e)(u:bL P nt o=some ao)(he:aH ao ac H=some (v,H')):bC P g ρ w (execOp a.eval o) v H':=by
 cases e with
 |false=>simp only[bL,y,acg,bF,afN,ab1,ahZ,abv]at u;obtain⟨J,h1,rfl⟩:=u;simp[aH]at he
 |true=>
  simp only[bL,y,bi,afN,ab1,ahZ,abv]at u;obtain⟨J,h1,rfl⟩:=u;have E:=h.gv h1;simp only[aH]at he;split at he
  .rename_i id K;rw[K]at E;have⟨b,z,hb,D⟩:=E.l9;split at he
   .rename_i s F M hi;have l:H.get id≠.none:=by rw[hi];simp
    have⟨O,Q,L,B,k,m,n⟩:=h.I.aE l;rw[hb]at B;injection B with B;injection B with e1 e2;subst e1;subst e2;rw[hi]at n;cases L<;>simp only[OR]at n;rename_i bs p;obtain⟨rfl,rfl,bG,f⟩:=n;have i:(getObj b).run P w=.ok (.stringIter bs p) w:=wx m (λ_ _ _=>by simp);have N:bs.size=s.length:=by rw[<-bG,aig,aiT];rfl
    split at he
    .simp only[abv,ahW]at he;obtain⟨rfl,rfl⟩:=he;have r:¬p<bs.size:=by have:=List.drop_eq_nil_iff.1 f.symm;omega
     refine bC.val (c:=.tuple #[.bool false]) (w':=w) ?_ (cI.bK h.I (by simp[VR,aZ]));simp only[execOp,y,Instr.next,D,ajC,Sem.run_bind,i,Result.andThen_ok,r,bF,Sem.run_pure]
    rename_i c t;split at he
    .rename_i k;simp only[abv,ahW]at he;obtain⟨rfl,rfl⟩:=he;have k:c<128:=aim (Nat.lt_succ_self c) (aib k);have q:s[p]?=some c:=by
      have:(s.drop p)[0]?=some c:=by rw[<-f];rfl
      rw[List.getElem?_drop]at this;simpa using this
     have C:p<bs.size:=by have:=(aiF.1 q).1;omega
     have A:p<bs.data.size:=C;have u:(bs.data[p]).toNat=c:=by rw[<-bG,aiw,Array.getElem?_toList,getElem?_pos bs.data p A]at q;simpa using q
     have j:Utf8.decode bs p=(c,1):=by
      have hg:(bs.get! (p+0)).toNat=c:=by rw[ajC,ByteArray.get!];rw[getElem!_pos bs.data p A];exact u
      simp only[Utf8.decode,hg,show c<0x80 from k,bi]
     have hu:=h.I.oW (i:=id) (o':=.ky s t (p+1)) (ob':=.stringIter bs (p+1)) l (by rw[hi];rfl) hb rfl (by simp only[OR];refine⟨trivial,trivial,bG,?_⟩;rw[<-List.drop_drop,<-f];rfl) (by simp[eP]) (w':={w with heap:=w.heap.setIfInBounds b (.stringIter bs (p+1))}) rfl rfl rfl rfl;rw[hi]at hu;refine bC.val (c:=.tuple #[.bool true,goInt p,.int .i32 c]) (w':={w with heap:=w.heap.setIfInBounds b (.stringIter bs (p+1))}) ?_ ⟨ρ,bZ.refl ρ,?_,hu.1,hu.2⟩;·simp only[execOp,y,Instr.next,D,ajC,Sem.run_bind,i,Result.andThen_ok,C,bi,j,wt w m (λ_ _ _=>by simp),Sem.run_pure]
     simp only[VR,aZ];exact⟨trivial,VR.goInt ρ p,by simp[kc],trivial⟩
    simp only[abv,ahW]at he;obtain⟨rfl,rfl⟩:=he;have C:p<bs.size:=by
     have:(s.drop p)[0]?=some c:=by rw[<-f];rfl
     rw[List.getElem?_drop]at this;have:=(aiF.1 (by simpa using this)).1;omega
    have j:Utf8.decode bs p=u8 s p:=by
     have hd:(s.map ajK).toArray=bs.data:=by rw[<-bG,ajy,show ajK∘ajs=_root_.id from funext λ(x:UInt8)=>by show ajK x.toNat=x;simp,List.map_id,Array.toArray_toList]
     unfold u8;rw[hd]
    generalize u8 s p=d at*;have hu:=h.I.oW (i:=id) (o':=.ky s (s.drop (p+d.2)) (p+d.2)) (ob':=.stringIter bs (p+d.2)) l (by rw[hi];rfl) hb rfl (by simp only[OR];exact⟨trivial,trivial,bG,trivial⟩) (by simp[eP]) (w':={w with heap:=w.heap.setIfInBounds b (.stringIter bs (p+d.2))}) rfl rfl rfl rfl;rw[hi]at hu;refine bC.val (c:=.tuple #[.bool true,goInt p,.int .i32 d.1]) (w':={w with heap:=w.heap.setIfInBounds b (.stringIter bs (p+d.2))}) ?_ ⟨ρ,bZ.refl ρ,?_,hu.1,hu.2⟩;·simp only[execOp,y,Instr.next,D,ajC,Sem.run_bind,i,Result.andThen_ok,C,bi,j,wt w m (λ_ _ _=>by simp),Sem.run_pure]
    simp only[VR,aZ];exact⟨trivial,VR.goInt ρ p,by simp[kc],trivial⟩
   cases he
  cases he
theorem Q1(h:dk P g ρ H w nt ac a){G:Operand}(B:o.op=.entry G)(C:bL P nt o=some ao)(he:aH ao ac H=some (v,H')):bC P g ρ w (execOp a.eval o) v H':=by
 simp only[bL,B,afN,ab1,ahZ,abv]at C;obtain⟨X,h1,rfl⟩:=C;have D:=h.gv h1;simp only[aH]at he;split at he
 .rename_i id J;rw[J]at D;have⟨b,z,hb,K⟩:=D.l9;split at he
  .rename_i m y seen F hi;have t:H.get id≠.none:=by rw[hi];simp
   have⟨Y,Z,L,q,W,u,c⟩:=h.I.aE t;rw[hb]at q;injection q with q;injection q with e1 e2;subst e1;subst e2;rw[hi]at c;cases L<;>simp only[OR]at c;rename_i E M s t';obtain⟨rfl,d,rfl,j,rfl⟩:=c;have p:(getObj b).run P w=.ok (.mapIter E M s t') w:=wx u (λ_ _ _=>by simp);cases E with
   |none=>simp[mO]at d
   |some mb=>
    simp only[mO]at d;split at he
    .rename_i bn es A hl N;split at he
     .rename_i f;have f:=ah5 f;subst f;have⟨bB,O,Q⟩:=sA h.I N d;split at he
      .rename_i i R;have⟨_,_,e0,c0,r,S,T,V⟩:=cr.pK bn 0 i Q R;split at he
       .rename_i e1 x;simp only[abv,ahW]at he;obtain⟨rfl,rfl⟩:=he;rw[ajF,x]at r;injection r with r;subst r;have k:s.back?=some bn:=by rw[<-j]at hl;have⟨l⟩:=s;simpa using hl
        have n:bB.find? (λe=>e.born==bn)=some c0:=by have⟨l⟩:=bB;simpa using S
        refine bC.val (c:=.tuple #[c0.key,c0.val]) (w':=w) ?_ (cI.bK h.I (by simp only[VR,aZ];exact⟨T,V,trivial⟩));simp[execOp,B,Instr.entry,K,p,k,oZ O,n]
       cases he
      cases he
     cases he
    cases he
  cases he
 grind
theorem cr.filter{p:aW->Bool}{q:MapEntry->Bool}(a:∀(e:aW)(c:MapEntry),e.born=c.born->p e=q c):∀{es:List aW}{bB:List MapEntry},cr ρ es bB->cr ρ (es.filter p) (bB.filter q)
 |[],[],_=>by grind
 |e::es,c::bB,h=>by
  simp only[List.filter_cons,a e c h.2.2.1];split;·exact⟨h.1,h.2.1,h.2.2.1,cr.filter a h.2.2.2⟩
  exact cr.filter a h.2.2.2
 |[],_::_,h=>by trivial
 |_::_,[],h=>by trivial
theorem cr.get:∀{es:List aW}{bB:List MapEntry},cr ρ es bB->∀(i:Nat)(c:MapEntry),bB[i]?=some c->∃e:aW,es[i]?=some e/\VR ρ e.key c.key/\VR ρ e.val c.val/\e.born=c.born|[],[],_,i,c,h=>by grind|e::es,c::bB,h,0,a,b=>by simp_all[cr]|e::es,c::bB,h,i+1,a,b=>by simpa using cr.get h.2.2.2 i a b|[],_::_,h,_,_,_=>by trivial|_::_,[],h,_,_,_=>by grind
theorem cr.append:∀{es:List aW}{bB:List MapEntry}{b:List aW}{a:List MapEntry},cr ρ es bB->cr ρ b a->cr ρ (es++b) (bB++a)|[],[],_,_,_,h=>by grind|e::es,c::bB,_,_,h,d=>by exact⟨h.1,h.2.1,h.2.2.1,cr.append h.2.2.2 d⟩|[],_::_,_,_,h,_=>by trivial|_::_,[],_,_,h,_=>by trivial
theorem cr.IJ(n:Nat):∀{es:List aW}{bB:List MapEntry},cr ρ es bB->es.all (λe=>ai0 n e.born)=bB.all (λe=>decide (e.born>=n))|[],[],_=>rfl|e::es,c::bB,h=>by simp only[List.all_cons,cr.IJ n h.2.2.2,h.2.2.1];grind[decide_eq_true,Nat.ble_eq_true_of_le,decide_eq_false,ai0,absurd,Nat.le_of_ble_eq_true]|[],_::_,h=>by trivial|_::_,[],h=>by trivial
theorem IK(h:dk P g ρ H w nt ac a){it:aJ}(D:bL P nt o=some (.j6 it)){cs:List (Option aW)}{V:Option aW->AV×ai}(he:qW H (gv ac it)=some (cs,V)):∃i c,i<cs.length/\cs[i]?=some c/\bC P g ρ w (execOp a.eval o) (V c).1 (V c).2:=by
 obtain⟨x,ho,hx⟩:∃x,o.op=.next x false/\ff P nt x=some it:=by
  unfold bL at D;simp only[afN,ahZ]at D;split at D;all_goals(try(exfalso;(repeat'(first|(cases D;done)|(rw[ab1]at D;obtain⟨_,_,D⟩:=D)|split at D));done))
  rename_i x s ho;cases s with|true=>simp only[bi,ab1,abv,reduceCtorEq,and_false,exists_false]at D|false=>simp only[acg,bF,ab1,abv,bJ.j6.injEq]at D;obtain⟨y,h1,rfl⟩:=D;exact⟨x,ho,h1⟩
 have g1:=h.gv hx;unfold qW at he;split at he
 .rename_i id hv;rw[hv]at g1;have⟨b,z,hb,aw⟩:=g1.l9;split at he
  .rename_i hi;simp only[abv,ahW]at he;obtain⟨rfl,rfl⟩:=he;obtain⟨ca,z',ob,M,bc,O,t⟩:=h.I.aE (i:=id) (by rw[hi];simp);rw[hb]at M;injection M with M;injection M with e1 e2;subst e1;subst e2;rw[hi]at t;cases ob<;>simp only[OR]at t;rename_i m' k p t';obtain⟨rfl,h1,_⟩:=t;have:m'=none:=by cases m'<;>simp[mO]at h1;rfl
   subst this;refine⟨0,none,aC,rfl,bC.val (c:=.tuple #[.bool false]) (w':=w) ?_ (cI.bK h.I (by simp[VR,aZ]))⟩;simp only[execOp,ho,Instr.next,aw,ajC,Sem.run_bind,wx O (λ_ _ _=>by simp),Result.andThen_ok,Sem.run_pure]
  .rename_i m b7 seen b' hi;split at he
   .rename_i es l hm;split at he;·cases he
    rename_i Y;simp only[abv,ahW]at he;obtain⟨rfl,rfl⟩:=he;obtain⟨ca,z',ob,M,bc,O,t⟩:=h.I.aE (i:=id) (by rw[hi];simp);rw[hb]at M;injection M with M;injection M with e1 e2;subst e1;subst e2;rw[hi]at t;cases ob<;>simp only[OR]at t;rename_i m' k p t';obtain⟨rfl,h1,rfl,h3,rfl⟩:=t;obtain⟨E,rfl⟩:∃E,m'=some E:=by cases m' with|none=>simp[mO]at h1|some E=>exact⟨E,rfl⟩
    have ax:ρ m=some (E,0):=h1;have⟨bB,k1,k2⟩:=sA h.I hm ax;have Z:∀n,p.contains n=seen.contains n:=λn=>by rw[<-h3,Array.contains_toList]
    have hl:=k2.filter (p:=λe=>!seen.contains e.born) (q:=λe=>!p.contains e.born) (λe c G=>by rw[G,Z]);have ef:=hl.filter (p:=λe=>aiu e.born k) (q:=λe=>decide (e.born<k)) (λe c G=>by
     rw[G];by_cases q:c.born<k;·rw[decide_eq_true q];exact ajP aiV q
     rw[decide_eq_false q];cases hb:aiu c.born k with|false=>rfl|true=>exact absurd (Eq.mp aiV hb) q);have J:=hl.filter (p:=λe=>!aiu e.born k) (q:=λe=>decide (e.born>=k)) (λe c G=>by
     rw[G];by_cases q:c.born<k;·rw[decide_eq_false aa,show aiu c.born k=true from ajP aiV q];rfl
     rw[decide_eq_true aa];cases hb:aiu c.born k with|false=>rfl|true=>exact absurd (Eq.mp aiV hb) q);have d:=ef.append J;have Q:(!p.isEmpty&&!bB.isEmpty&&bB.all λe=>decide (e.born>=t'))=false:=by
     have e1:p.isEmpty=seen.isEmpty:=by rw[<-h3,Array.isEmpty_toList]
     have e2:bB.isEmpty=es.isEmpty:=by have hh:=cr.length k2;rw[<-Array.isEmpty_toList];cases a6:bB.toList<;>rw[a6]at hh<;>cases es<;>first|rfl|simp at hh
     have e3:=k2.IJ t';rw[e1,e2,<-Array.all_toList,<-e3];simpa using Y
    generalize bv:(es.filter λe=>!seen.contains e.born).filter (λe=>aiu e.born k)=N at ef d⊢;generalize cd:(es.filter λe=>!seen.contains e.born).filter (λe=>!aiu e.born k)=nA at J d⊢;generalize W:(bB.toList.filter λe=>!p.contains e.born).filter (λe=>decide (e.born<k))=F at ef d;generalize b0:(bB.toList.filter λe=>!p.contains e.born).filter (λe=>decide (e.born>=k))=nL at J d;have B:N.isEmpty=F.isEmpty:=by have hh:=cr.length ef;clear bv W ef d;cases N<;>cases F<;>first|rfl|simp at hh
    have a8:(N++nA).length=(F++nL).length:=cr.length d;let r:List (Option MapEntry):=(if F.isEmpty then[none]else[])++(F++nL).map some;have R:r.length=((if N.isEmpty then[none]else[])++(N++nA).map some:List (Option aW)).length:=by simp only[r,ahY,aig,B]at a8⊢;split<;>simp<;>omega
    have S:0<r.length:=by simp only[r,ahY,aig];cases F with|nil=>simp;omega|cons a b=>simp;omega
    have b3:∃(j:Nat)(A:World),j<r.length/\(A=w\/A=w.drew)/\(choose (Question.mapNext r.length)).run P w=.ok j A:=by
     by_cases hf:r.length<=1;·exact⟨0,w,S,Or.inl rfl,by simp[choose,Sem.run,Question.forced,hf]⟩
     exact⟨_,w.drew,Nat.mod_lt _ S,Or.inr rfl,by simp only[choose,Sem.run,Question.forced,decide_eq_true_eq,hf,bF,Question.cut];rfl⟩
    have⟨j,A,hj,ay,a'⟩:=b3;have T:A.heap=w.heap:=by rcases ay with rfl|rfl<;>rfl
    have a1:bo P g ρ H A:=h.I.AL T;have a2:dj g w A:=by rcases ay with rfl|rfl;exact dj.refl g _;exact(dj.refl g _).drew
    have K:((if(ajv (λe:MapEntry=>decide (e.born<k)) (ajv (λe:MapEntry=>!p.contains e.born) bB)).isEmpty=true then #[none]else #[])++Array.map some (ajv (λe:MapEntry=>decide (e.born<k)) (ajv (λe:MapEntry=>!p.contains e.born) bB)++ajv (λe:MapEntry=>decide (e.born>=k)) (ajv (λe:MapEntry=>!p.contains e.born) bB))).toList=r:=by
     simp only[r,Array.toList_append,Array.toList_map,Array.toList_filter,W,b0];congr 1;have:(ajv (λe:MapEntry=>decide (e.born<k)) (ajv (λe:MapEntry=>!p.contains e.born) bB)).isEmpty=F.isEmpty:=by rw[<-W,<-Array.toList_filter,<-Array.toList_filter,Array.isEmpty_toList]
     rw[this];split<;>rfl
    generalize ag:((if(ajv (λe:MapEntry=>decide (e.born<k)) (ajv (λe:MapEntry=>!p.contains e.born) bB)).isEmpty=true then #[none]else #[])++Array.map some (ajv (λe:MapEntry=>decide (e.born<k)) (ajv (λe:MapEntry=>!p.contains e.born) bB)++ajv (λe:MapEntry=>decide (e.born>=k)) (ajv (λe:MapEntry=>!p.contains e.born) bB)))=CA at K;have av:CA.size=r.length:=by rw[<-K,aiT]
    have v:(execOp a.eval o).run P w=((match r[j]? with|some (some e)=>(do setObj b (.mapIter (some E) k (p.push e.born) l);pure (.value (.tuple #[.bool true,e.key,e.val])))|some none=>pure (.value (.tuple #[.bool false]))|none=>stuck "Next: no such candidate"):Sem Next).run P A:=by simp only[execOp,ho,Instr.next,aw,ajC,Sem.run_bind,wx O (λ_ _ _=>by simp),Result.andThen_ok,oZ k1,Q,acg,bF,ag,av,a'];rw[<-Array.getElem?_toList,K];cases f:r[j]? with|none=>simp only[stuck,Sem.run_bind];rfl|some c'=>cases c' with|none=>simp|some e=>simp only[Sem.run_bind,Sem.run_pure];cases Sem.run P (setObj b (.mapIter (some E) k (p.push e.born) l)) A<;>rfl
    have L:=hj;rw[R]at L;cases f:r[j]? with
    |none=>rw[List.getElem?_eq_none_iff]at f;omega
    |some c'=>
     rw[f]at v;cases c' with
     |none=>
      have b4:((if N.isEmpty then[none]else[])++(N++nA).map some:List (Option aW))[j]?=some none:=by
       simp only[r]at f;by_cases he:F.isEmpty=true;·rw[B];simp only[he,bi]at f⊢;cases j with|zero=>simp|succ j=>simp only[List.singleton_append,ai5,aiw,af0]at f;obtain⟨_,_,h⟩:=f;cases h
       have X:F.isEmpty=false:=by simpa using he
       simp only[X,acg,bF,aiY,aiw,af0]at f;obtain⟨_,_,h⟩:=f;cases h
      refine⟨j,none,L,b4,bC.val (c:=.tuple #[.bool false]) (w':=A) ?_ ⟨ρ,bZ.refl ρ,by simp[VR,aZ],a1,a2⟩⟩;rw[v];simp
     |some e=>
      obtain⟨C,b6,v1,v2,v3⟩:∃C:aW,((if N.isEmpty then[none]else[])++(N++nA).map some:List (Option aW))[j]?=some (some C)/\VR ρ C.key e.key/\VR ρ C.val e.val/\C.born=e.born:=by
       simp only[r]at f;by_cases he:F.isEmpty=true;·rw[B];simp only[he,bi]at f⊢;cases j with|zero=>simp at f|succ j=>simp only[List.singleton_append,ai5,aiw,af0]at f⊢;have⟨e0,h0,u⟩:=f;injection u with u;subst u;have⟨C,q1,q2,q3,q4⟩:=d.get j e0 h0;exact⟨C,⟨C,q1,rfl⟩,q2,q3,q4⟩
       rw[B];have X:F.isEmpty=false:=by simpa using he
       simp only[X,acg,bF,aiY,aiw,af0]at f⊢;have⟨e0,h0,u⟩:=f;injection u with u;subst u;have⟨C,q1,q2,q3,q4⟩:=d.get j e0 h0;exact⟨C,⟨C,q1,rfl⟩,q2,q3,q4⟩
      have ba:A.heap[b]?=some (.mapIter (some E) k p t'):=by rw[T];exact O
      have bb:=wt (P:=P) A ba (λ_ _ _=>by simp) (.mapIter (some E) k (p.push e.born) l);have hu:=a1.oW (i:=id) (o':=.mapIter (some m) k (seen++[C.born]) l) (ob':=.mapIter (some E) k (p.push e.born) l) (w':={A with heap:=A.heap.setIfInBounds b (.mapIter (some E) k (p.push e.born) l)}) (by rw[hi];simp) (by rw[hi];rfl) hb rfl (by simp only[OR];exact⟨trivial,ax,trivial,by rw[Array.toList_push,h3,v3],trivial⟩) (by simp[eP]) rfl rfl rfl rfl;rw[hi]at hu;refine⟨j,some C,L,b6,bC.val (c:=.tuple #[.bool true,e.key,e.val]) (w':=_) ?_ ⟨ρ,bZ.refl ρ,by simp[VR,aZ,v1,v2],hu.1,a2.trans hu.2⟩⟩;rw[v];simp only[Sem.run_bind,bb,Result.andThen_ok,Sem.run_pure]
   cases he
  cases he
 grind
end
section
variable{P:Program}{g:b8}{ρ:aM}{H H':ai}{w:World}{nt:Nat}{ac:az AV}{a:Act}{o:Oper}{ao:bJ}{v:AV}
theorem Q2(h:dk P g ρ H w nt ac a){op:BinOp}{t t':TypeId}{x y:Operand}(m:o.op=.binOp op t x y t')(b:bL P nt o=some ao)(he:aH ao ac H=some (v,H')):bC P g ρ w (execOp a.eval o) v H':=by
 have hu:∃d,P.underlying t=some d:=by simp only[bL,m,afN,gz]at b;cases hu:P.underlying t with|none=>rw[hu]at b;simp at b|some d=>exact⟨d,rfl⟩
 have⟨d,hu⟩:=hu;by_cases hint:∃k,d=.int k
 .obtain⟨k,rfl⟩:=hint;by_cases hs:op=.shl\/op=.shr;·grind[P9]
  exact P8 h m hu (by grind) b he
 by_cases c:d=.string;·subst c;exact Qc h m hu b he
 have n:∀k,P.underlying t≠some (.int k):=λk e=>by rw[hu]at e;injection e with e;exact hint ⟨k,e⟩
 have p:P.underlying t≠some .string:=λe=>by rw[hu]at e;injection e with e;exact c e
 have key:∃neg i j l,op=(if neg then .neq else .eql)/\iy P 16 (oS x||oS y) t=some i/\vX P i t=true/\ff P nt x=some j/\ff P nt y=some l/\ao=.eq neg i j l:=by
  simp only[bL,m,afN,gz,hu,ajq]at b;cases op<;>cases d<;>first|(exact absurd ⟨_,rfl⟩ hint)|(exact absurd rfl c)|(simp at b;done)|skip
  all_goals
   simp only[ab1]at b;have⟨i,f,b⟩:=b;split at b;case isFalse=>cases b
   rename_i hg;simp only[ab1,ahZ,abv]at b;have⟨j,h1,l,h2,h3⟩:=b;first|exact⟨false,i,j,l,rfl,f,hg,h1,h2,h3.symm⟩|exact⟨true,i,j,l,rfl,f,hg,h1,h2,h3.symm⟩
 obtain⟨neg,i,j,l,q,f,hg,h1,h2,rfl⟩:=key;exact QO h m q f hg h1 h2 n p he
theorem Q3(h:dk P g ρ H w nt ac a){c:Call}{b:Builtin}(d:o.op=.call c)(hb:c.callee=.builtin b)(e:bL P nt o=some ao)(he:aH ao ac H=some (v,H')):bC P g ρ w (execOp a.eval o) v H':=by cases b with|len=>grind[Qq]|cap=>grind[Qr]|append=>grind[QD]|copy=>grind[QE]|delete=>grind[QY]|min=>exact Ij (isMax:=false) h d hb e he|max=>exact Ij (isMax:=true) h d hb e he|clear=>grind[QF]|_=>simp_all[bL]
theorem yJ(h:dk P g ρ H w nt ac a)(j:bL P nt o=some ao)(he:aH ao ac H=some (v,H')):bC P g ρ w (execOp a.eval o) v H':=by
 cases l:o.op with
 |move x=>grind[HW]
 |assign x=>exact HW h (.inr l) j he
 |pick c x y=>grind[PX]
 |alloc e=>grind[PY]
 |box e x=>grind[PZ]
 |build t dW=>grind[Qt]
 |buildSlice t len dW=>grind[Qu]
 |insert t m k x=>exact II h (.inr l) j he
 |load t x=>grind[P1]
 |store t x y=>grind[P4]
 |nilCheck x=>grind[P5]
 |binOp op t x y t'=>grind[Q2]
 |unOp op t x=>grind[Qd]
 |convert s d x=>grind[Qx]
 |makeInterface t x=>grind[Qe]
 |makeFunc f x y=>grind[Qf,bL]
 |makeMap t r=>grind[Qg,bL]
 |makeSlice t x y=>grind[Qw]
 |slice t x lo hi p=>grind[Qo]
 |fieldAddr t x i=>grind[Qi]
 |field t x i=>grind[Qh]
 |indexAddr t x i=>grind[Qk]
 |index t x i=>grind[Ql]
 |lookup t m k ok=>grind[QV]
 |mapUpdate t m k x=>grind[II]
 |range t x=>grind[QZ]
 |next n s=>grind[Q0]
 |entry n=>grind[Q1]
 |typeAssert x q t ok=>grind[Qy]
 |extract x i=>grind[Qj]
 |call c=>cases hb:c.callee with|builtin b=>grind[Q3]|value f=>simp only[bL,l,hb,afN,ab1,ahZ,abv]at j;obtain⟨_,_,_,_,rfl⟩:=j;trivial|invoke r m=>simp_all[bL]
 |_=>simp_all[bL]
end
section
variable{P:Program}{h:b8}{ρ:aM}{H H':ai}{w:World}{nt:Nat}{ac:az AV}
def kS(ρ:aM):List ah->List Deferred->Prop
 |[],[]=>True
 |i::l,d::m=>(∃r,ρ i=some (r,0)/\d={target:=.collected r,args:= #[]})/\kS ρ l m
 |_,_=>False
theorem kS.mono{ρ a:aM}(b:bZ ρ a):∀{l:List ah}{m:List Deferred},kS ρ l m->kS a l m|[],[],_=>trivial|_::_,_::_,k=>⟨by obtain⟨⟨r,h1,h2⟩,_⟩:=k;exact⟨r,(b _ _ h1).1,h2⟩,kS.mono b k.2⟩|[],_::_,k=>by trivial|_::_,[],k=>by trivial
structure gf(ρ:aM)(nt:Nat)(fr:Fr)(ro:Option Nat)(a:Act):Prop where
 E:gO ρ nt fr.ac a.tmps
 D:kS ρ fr.bA a.defers
 R:mO ρ fr.bz ro
theorem gf.mono{ρ b:aM}(c:bZ ρ b){fr:Fr}{ro:Option Nat}{a:Act}(k:gf ρ nt fr ro a):gf b nt fr ro a:=⟨k.E.mono c,k.D.mono c,by
 have:=k.R;revert this;cases fr.bz<;>cases ro<;>simp only[mO]<;>intro q;·simp
 .omega
 .omega
 exact(c _ _ q).1⟩
def wy(k:List Item):bY->List Item->Prop
 |.none,t=>t=k
 |.exit id,t=>∃a,t=.code (.exit id)::a/\exitTo id a=exitTo id k
 |.ret,t=>∃a,t=.code .ret::a
def mQ(f:Value)(args:Array Value):Sem Next:=do
 let d<-Deferred.ofValue f args
 invoke d.target d.args
def pS(fr:Frame):Prop:=
 match fr.todo with
 |.inRegion _ _::_|.inRangeFunc _::_=>True
 |_=>False
theorem A5{fr:Frame}{cs:List Frame}{s:Sem Next}{w w':World}{v:Value}(a:s.run P w=.ok (.value v) w'):(stepG.apply P true fr cs none s w).bare=.go {frame:=fr.finish v,callers:=cs,status:=.running,dying:=none} w':=by simp[a,stepG.apply]
theorem D7{fr:Frame}{cs:List Frame}{s:Sem Next}{w w':World}(a:s.run P w=.ok .skip w'):(stepG.apply P true fr cs none s w).bare=.go {frame:=fr.finish undef,callers:=cs,status:=.running,dying:=none} w':=by simp[a,stepG.apply]
theorem IL{fr:Frame}(a:pS fr){cs:List Frame}{s:Sem Next}{w w':World}{f:FuncId}{args:Array Value}(c:s.run P w=.ok (.enter f args) w'):(stepG.apply P true fr cs none s w).bare=.go {frame:=Frame.enter P f args .normal,callers:=fr::cs,status:=.running,dying:=none} w':=by have⟨fn,tmps,b,defers,mode,kind,ro⟩:=fr;unfold pS at a;simp only at a;split at a<;>first|(exact False.elim a)|simp[stepG.apply,c]
theorem Q4{fr:Frame}(a:pS fr){cs:List Frame}{s:Sem Next}{w w':World}{l:Nat}{f:FuncId}{tmps:Array Value}{assign body:Code}(b:s.run P w=.ok (.round l f tmps assign body) w'):(stepG.apply P true fr cs none s w).bare=.go {frame:=Frame.round l f tmps assign body .normal,callers:=fr::cs,status:=.running,dying:=none} w':=by simp[a,b,pS,False.elim,stepG.apply]
theorem IM:∀(l:List AV)(p:Nat)(t:az AV)(i:Nat),(jf l (ah.cG p) t).get .ajS (ah.cG i)=if p<=i/\i<p+l.length then l.getD (i - p) .ajS else t.get .ajS (ah.cG i)
 |[],p,t,i=>by rw[jf,an (by simp only[List.length_nil];omega)]
 |v::l,p,t,i=>by
  rw[jf,show(ah.cG p).succ=ah.cG (p+1)from rfl,IM l (p+1),az.aF];simp only[air];by_cases h1:p+1<=i/\i<p+1+l.length;·rw[aG h1,aG aa,show i - p=(i - (p+1))+1 by omega];simp
  rw[an h1];by_cases h2:i=p;·subst h2;rw[aG rfl,aG aa];simp
  rw[an (λe=>h2 (ah.bE e)),an aa]
theorem D8:∀p:ah,(az.aR:az AV).get .ajS p=.ajS|.xH=>rfl|.xO p=>by exact D8 p|.xI p=>by exact D8 p
theorem D9{l:List AV}{args:Array Value}(f:aZ ρ l args.toList)(a:l.length<=nt):gO ρ nt (jf l .xH .aR) (args++ajI (nt - args.size) undef):=by
 have hl:l.length=args.size:=by have:=aZ.length f;simpa using this
 refine⟨by grind,λt b=>?_⟩;have:=IM l 0 .aR t;rw[show ah.cG 0=.xH from rfl]at this;rw[this,D8];by_cases h1:t<l.length;·have⟨c,d,e⟩:=aZ.get f t l[t] aC;have h2:t<args.size:=aa;simp_all
 rw[an aa];have:(args++ajI (nt - args.size) undef).getD t undef=undef:=by rw[aiL,Array.getElem?_append_right aa,Array.getElem?_replicate];split<;>rfl
 rw[this];exact VR.ajS ρ
theorem IN:∀{ps:List Tmp}{a:List AV}{cs:List Value}{ac:az AV}{tmps:Array Value},gO ρ nt ac tmps->aZ ρ a cs->a.length=ps.length->gO ρ nt (l7 (ps.map ah.cG) a ac) ((ps.zip cs).foldl (λtmps(p:Tmp×Value)=>tmps.setIfInBounds p.1 p.2) tmps)|[],[],[],ac,tmps,d,_,_=>by trivial|p::ps,v::a,c::cs,ac,tmps,d,b,hl=>by simp only[ah2,l7,List.zip_cons_cons,List.foldl_cons];exact IN (d.set b.1) b.2 (by grind)|[],_::_,_,_,_,_,_,hl=>by grind|_::_,[],_,_,_,_,_,hl=>by grind|_,[],_::_,_,_,_,b,_=>by trivial|_,_::_,[],_,_,_,b,_=>by trivial
theorem A6:∀{l:List ah}{j:List Deferred}{H H':ai}{w:World},bo P h ρ H w->kS ρ l j->iw H l=some H'->∀(fr:Frame)(cs:List Frame),fr.mode=.returning->∃w',Steps P (lone {fr with defers:=j} cs w) (lone {fr with defers:=[]} cs w')/\bo P h ρ H' w'/\dj h w w'
 |[],[],H,H',w,m,_,y,fr,cs,_=>by grind[iw,Option.some.injEq,Steps.refl,dj.refl]
 |i::l,d::j,H,H',w,m,e,y,fr,cs,n=>by
  obtain⟨⟨r,o,rfl⟩,e⟩:=e;simp only[iw]at y;split at y
  .rename_i hi;have f:H.get i≠.none:=by rw[hi];simp
   have⟨v,x,p,k,u,g,a⟩:=m.aE f;rw[o]at k;injection k with k;injection k with e1 e2;subst e1;subst e2;rw[hi]at a;cases p<;>simp only[OR]at a;rename_i cs';have⟨_,b⟩:=a;have b:=b trivial;subst b;have hu:=m.oW (i:=i) (o':=.deferred true) (ob':=.deferred none) f (by rw[hi];rfl) o rfl (by simp only[OR];exact⟨trivial,λy=>by cases y⟩) (by simp[eP]) (w':={w with heap:=w.heap.setIfInBounds r (.deferred none)}) rfl rfl rfl rfl;rw[hi]at hu;have⟨w',q,s,t⟩:=A6 hu.1 e y fr cs n;have c:(Instr.takeDeferred r).run P w=.ok [] {w with heap:=w.heap.setIfInBounds r (.deferred none)}:=by simp only[Instr.takeDeferred,Sem.run_bind,wx g (λ_ _ _=>by simp),Result.andThen_ok,wt w g (λ_ _ _=>by simp),Sem.run_pure]
   refine⟨w',.head (step_lone_go (fr':={fr with defers:=j}) (cs':=cs) (w':={w with heap:=w.heap.setIfInBounds r (.deferred none)}) ?_) q,s,hu.2.trans t⟩;simp[stepG,n,unwind,Sem.runT_eq,c]
  grind
 |[],_::_,_,_,_,_,e,_,_,_,_=>by trivial
 |_::_,[],_,_,_,_,e,_,_,_,_=>by trivial
def A7(tmps:Array Value):ResultVar->Sem Value
 |.tmp t=>pure (tmps.getD t undef)
 |.cell a t=>do loadVar t (<-asAddr (tmps.getD a undef))
theorem Q5(fn:Func)(tmps:Array Value):results fn tmps=(do let a<-fn.results.mapM (A7 tmps)pure (if b:a.size=1 then a[0]else .tuple a)):=rfl
theorem Ea(j:bo P h ρ H w){ac:az AV}{tmps:Array Value}(i:gO ρ nt ac tmps):∀{k:List ResultVar}{d:List gE}{l:List AV},k.mapM (wc P nt)=some d->fc ac H d=some l->∃e:List Value,aZ ρ l e/\(k.mapM (A7 tmps)).run P w=.ok e w
 |[],d,l,h1,h2=>by simp_all[List.mapM_nil,ahZ,abv,fc,aZ]
 |r::k,d,l,h1,h2=>by
  simp only[ajx,afN,ab1,ahZ,abv]at h1;obtain⟨ar,a,x,f,rfl⟩:=h1;cases r with
  |tmp t=>
   simp only[wc]at a;split at a
   .rename_i m;injection a with a;subst a;simp only[fc,af0]at h2;obtain⟨A,p,rfl⟩:=h2;have⟨e,n,o⟩:=Ea j i f p;refine⟨tmps.getD t undef::e,?_,?_⟩;·exact⟨i.2 t m,n⟩
    simp[o,ajx,A7,Sem.run_bind,Sem.run_pure,Result.andThen_ok]
   grind
  |cell ad t=>
   simp only[wc]at a;split at a
   .rename_i g s hg hs;split at a
    .rename_i m;injection a with a;subst a;simp only[fc]at h2;split at h2;·rename_i v B y q;injection h2 with h2;subst h2;have⟨b,hb,c,z,u⟩:=HZ j (i.2 ad m) hg (λC=>by grind) (λC=>by grind) y;have⟨e,n,o⟩:=Ea j i f q;simp[u,n,hb,z,o,aZ,ajx,A7,asAddr,Sem.run_bind,Sem.run_pure,Result.andThen_ok]
     grind
    grind
   grind
theorem Eb(e:bo P h ρ H w){ac:az AV}{tmps:Array Value}{fn:Func}(f:gO ρ fn.ntmps ac tmps){b:List gE}{l:List AV}(h1:fn.results.toList.mapM (wc P fn.ntmps)=some b)(h2:fc ac H b=some l):∃c,(results fn tmps).run P w=.ok c w/\VR ρ (fZ l) c:=by have⟨d,a,g⟩:=Ea e f h1 h2;have hl:=aZ.length a;rw[Q5,Array.mapM_eq_mapM_toList];simp only[Sem.run_bind,Sem.run_map,g,Result.andThen_ok,Sem.run_pure];match l,d,a,hl with|[],[],_,_=>exact⟨.tuple #[],aC,by simp[fZ,VR,aZ]⟩|[v],[c],a,_=>exact⟨c,aC,by simp only[aZ]at a;exact a.1⟩|v::i::l,c::c2::d,a,_=>refine⟨.tuple (c::c2::d).toArray,aC,?_⟩;simp only[fZ,VR];exact a
end
section
variable{P:Program}
abbrev cV:Nat->(Nat->Prop)->Prop:=λn k=>∀i,i<n->k i
def wz(P:Program)(d:b8)(e:aM)(w:World)(s:Sem Next)(fr:Frame)(cs:List Frame)(K:KT):Prop:=
 ∃v H' c w' fr1 a b,K v H'/\cI P d e w v H' c w'/\
  (stepG.apply P true fr cs none s w).bare=.go {frame:=fr1,callers:=a,status:=.running,dying:=none} b/\Steps P (lone fr1 a b) (lone (fr.finish c) cs w')
def uk(P:Program)(f:FuncId)(g:List AV->ai->Option (AV×ai)):Prop:=
 ∀{c:b8}{a:aM}{H H':ai}{w:World}{args:List AV}{v:AV}{argv:Array Value},g args H=some (v,H')->aZ a args argv.toList->bo P c a H w->∀(fr:Frame)(cs:List Frame),pS fr->
  wz P c a w (callFunc f argv) fr cs λd b=>d=v/\b=H'
def rp(P:Program)(ab:Nat->aV)(n:Nat):Prop:=
 ∀{b:b8}{a:aM}{H:ai}{w:World}{c:AV}{args:List AV}{K:KT}{fv:Value}{argv:Array Value},fu False cV ab n c args H K->VR a c fv->aZ a args argv.toList->bo P b a H w->
  ∀(fr:Frame)(cs:List Frame),pS fr->wz P b a w (mQ fv argv) fr cs K
def gP(P:Program)(d:b8)(f:aM)(g:Nat)(w:World)(b:Frame)(k:List Item)(cs:List Frame)(m:Machine)(K:bY->Fr->ai->Prop):Prop:=
 ∃j c H' a e w' t,K j c H'/\bZ f a/\gf a g c b.roundOf e/\bo P d a H' w'/\dj d w w'/\wy k j t/\Steps P m (lone (b.atR e t) cs w')
def ul(P:Program)(t:Nat)(g:az AV->ai->Option (az AV×ai)):Prop:=
 ∀{f:b8}{e:aM}{H H':ai}{w:World}{d:Nat}{fr:Fr}{c1 c2:Code}{x y:bm}{c:az AV}{b:Frame}{a:Act},dH P d c1=some x->dH P d c2=some y->Ov.code t=.seq x y->g fr.ac H=some (c,H')->gf e d fr b.roundOf a->bo P f e H w->
  ∀(k:List Item)(cs:List Frame),gP P f e d w b k cs (lone (b.atR a (.code (.seq c1 c2)::k)) cs w) λj fr1 H1=>j=.none/\fr1={fr with ac:=c}/\H1=H'
structure iX(P:Program)(ab:Nat->aV):Prop where
 code:∀f nt rs body,ab f=.code nt rs body->∃fn,P.funcs[f]?=some fn/\pP P fn=some (.code nt rs body)/\(fn.name== "runtime.NumGoroutine")=false
 fF:∀f g,ab f=.fF g->uk P f g
 dL:∀t g,ab t=.dL g->ul P t g
def wA(P:Program)(ab:Nat->aV)(n:Nat):Prop:=
 ∀{f:b8}{d:aM}{H:ai}{w:World}{e:Nat}{fr:Fr}{c:bm}{cc:Code}{K:bY->Fr->ai->Prop}{b:Frame}{a:Act},dH P e cc=some c->exec False cV ab n c fr H K->gf d e fr b.roundOf a->bo P f d H w->
  ∀(k:List Item)(cs:List Frame),gP P f d e w b k cs (lone (b.atR a (.code cc::k)) cs w) K
def wB(P:Program)(a:Nat)(aB:Array Oper):List Nat->List bD->Prop
 |[],[]=>True
 |i::is,x::l=>(∃o,aB[i]?=some o/\oT P a aB o=some x)/\wB P a aB is l
 |_,_=>False
def A8(P:Program)(ab:Nat->aV)(n:Nat):Prop:=
 ∀{e:b8}{c:aM}{H:ai}{w:World}{d:Nat}{fr:Fr}{l:List bD}{is:List Nat}{aB:Array Oper}{K:Fr->ai->Prop}{b:Frame}{a:Act},wB P d aB is l->Go.al.aB False cV ab n l fr H K->gf c d fr b.roundOf a->bo P e c H w->
  ∀(k:List Item)(cs:List Frame),gP P e c d w b k cs (lone (b.atR a (.inRegion aB is::k)) cs w) λj fr H=>(match j with|.none=>True|_=>False)/\K fr H
theorem gP.gI{d:b8}{e:aM}{f:Nat}{w:World}{b:Frame}{k:List Item}{cs:List Frame}{m g:Machine}{K:bY->Fr->ai->Prop}(h:Steps P m g)(i:gP P d e f w b k cs g K):gP P d e f w b k cs m K:=by have⟨j,a,H',c,l,w',t,h1,h2,h3,n,o,p,q⟩:=i;exact⟨j,a,H',c,l,w',t,h1,h2,h3,n,o,p,h.trans q⟩
theorem gP.sD{c:b8}{f a:aM}{g:Nat}{w h:World}{b:Frame}{k:List Item}{cs:List Frame}{m:Machine}{K:bY->Fr->ai->Prop}(he:bZ f a)(i:dj c w h)(l:gP P c a g h b k cs m K):gP P c f g w b k cs m K:=by have⟨j,d,H',e,n,w',t,h1,h2,h3,o,p,q,r⟩:=l;exact⟨j,d,H',e,n,w',t,h1,he.trans h2,h3,o,i.trans p,q,r⟩
theorem gP.mono{d:b8}{e:aM}{nt:Nat}{w:World}{b:Frame}{k:List Item}{cs:List Frame}{m:Machine}{K f:bY->Fr->ai->Prop}(g:gP P d e nt w b k cs m K)(h:∀j fr H,K j fr H->f j fr H):gP P d e nt w b k cs m f:=by have⟨j,a,H',c,i,w',t,h1,h2⟩:=g;exact⟨j,a,H',c,i,w',t,h _ _ _ h1,h2⟩
theorem gf.put{b:aM}{e:Nat}{fr:Fr}{ro:Option Nat}{a:Act}(h:gf b e fr ro a){v:AV}{c:Value}(f:VR b v c)(d:Option Tmp):gf b e {fr with ac:=aO fr.ac (d.map ah.cG) v} ro (a.put d c):=by cases d with|none=>trivial|some d=>exact⟨h.E.set f,h.D,h.R⟩
theorem yK{b:Nat}{aB:Array Oper}{o:Oper}{x:bD}(h:oT P b aB o=some x):x.dst=o.dst.map ah.cG/\x.iu=[]/\x.re=[]/\x.op=(if((bL P b o).getD .l6).yt&&!vY o.op then .l6 else(bL P b o).getD .l6)/\((o.guard=none/\x.guard=none)\/∃j a g d,o.guard=some (j,a)/\aB[j]?=some g/\g.dst=some d/\d<b/\x.guard=some (ah.cG d,a)):=by
 unfold oT at h;split at h;·rename_i d g hd hg;injection h with h;subst h;refine⟨?_,rfl,rfl,rfl,?_⟩;all_goals grind[HO,Option.some.injEq,HP,Option.bind_eq_some_iff]
 grind
theorem Ec{ac:az AV}{g:Option (ah×Bool)}(h:dZ ac g=true):j9 ac g=true:=by
 cases g with
 |none=>rfl
 |some g=>
  simp only[dZ]at h;simp only[j9];split at h;·rename_i he;rw[he];rfl
  cases h
theorem IP{k:aM}{f:Nat}{fr:Fr}{ro:Option Nat}{a:Act}(h:gf k f fr ro a){aB:Array Oper}{o:Oper}{x:bD}(l:oT P f aB o=some x)(b:j9 fr.ac x.guard=true):Region.wanted o (yielded aB a.tmps)=dZ fr.ac x.guard:=by
 have⟨_,_,_,_,hg⟩:=yK l;rcases hg with⟨h1,h2⟩|⟨j,e,g,d,h1,h2,h3,i,m⟩;·simp[h2,h1,Region.wanted,dZ]
 rw[m]at b⊢;simp only[j9]at b;have c:=h.E.2 d i;have hs:d<a.tmps.size:=by rw[h.E.1];exact i
 have n:a.tmps[d]?=some (a.tmps.getD d undef):=by rw[aiL,getElem?_pos a.tmps d hs];rfl
 simp only[Region.wanted,h1,yielded,h2,h3,ajq,n,dZ];cases he:fr.ac.get .ajS (ah.cG d)with|bool q=>rw[he]at c;rw[c.oX];cases q<;>cases e<;>rfl|bM=>rw[he]at b;simp[AV.br]at b|_=>rw[he]at c;cases p:a.tmps.getD d undef<;>rw[p]at c<;>first|rfl|(simp[VR]at c;done)
end
section
variable{P:Program}
theorem gP.A9{d:b8}{c:aM}{H:ai}{w:World}{e:Nat}{fr:Fr}{K:bY->Fr->ai->Prop}{b:Frame}{a:Act}(f:gf c e fr b.roundOf a)(g:bo P d c H w)(h:K .none fr H)(k:List Item)(cs:List Frame):gP P d c e w b k cs (lone (b.atR a k) cs w) K:=⟨.none,fr,H,c,a,w,k,h,bZ.refl c,f,g,dj.refl d w,rfl,Steps.refl _ _⟩
theorem IQ{a:Nat}{o:Oper}{f:aJ}{args:List aJ}(b:vY o.op=true)(d:bL P a o=some (.call f args)):∃c g,o.op=.call c/\c.callee=.value g/\ff P a g=some f/\sq P a c.args=some args:=by
 unfold vY at b;split at b
 .rename_i c e;split at b;·simp_all[bL,afN,ab1,ahZ,abv]
  grind
 grind
theorem yL{a:Nat}{o:Oper}{x:bJ}(b:bL P a o=some x):∀c,o.op≠.defer c:=by grind[bL]
theorem Q6{ab:Nat->aV}{n:Nat}(M:rp P ab n)(V:A8 P ab n):A8 P ab (n+1):=by
 intro R Q H w A fr l is aB K b a Y he B C k cs;cases l with
 |nil=>cases is with|cons i is=>trivial|nil=>exact .gI (.one stepR_region_end) (.A9 B C ⟨trivial,he⟩ k cs)
 |cons x l=>
  cases is with
  |nil=>trivial
  |cons i is=>
   have⟨⟨o,z,hx⟩,Y⟩:=Y;have⟨xd,xh,xr,X,_⟩:=yK hx;have hg:=IP B hx;have after:∀{r:aM}{H':ai}{w':World}{v:AV}{c:Value},bZ Q r->VR r v c->bo P R r H' w'->dj R w w'->Steps P (lone (b.atR a (.inRegion aB (i::is)::k)) cs w) (lone (b.atR (a.put o.dst c) (.inRegion aB is::k)) cs w')->Go.al.aB False cV ab n l {fr with ac:=aO fr.ac x.dst v} H' K->gP P R Q A w b k cs (lone (b.atR a (.inRegion aB (i::is)::k)) cs w) λj fr H=>(match j with|.none=>True|_=>False)/\K fr H:=by intro r H' w' v c h D s F hs J;have T:=(B.mono h).put D o.dst;rw[<-xd]at T;exact .sD h F (.gI hs (V Y J T s k cs))
   have u:∀c,(b.atR a (.inRegion aB (i::is)::k)).finish c=b.atR (a.put o.dst c) (.inRegion aB is::k):=by intro c;rw[Frame.finish_atR,z];rfl
   simp only[Go.al.aB,xh,xr,dF,di,dX,bi]at he;cases L:dZ fr.ac x.guard with
   |false=>
    rw[L]at he hg;simp only[acg,bF]at he;split at he;case isFalse=>grind
    rename_i Z;have hg:=hg Z;have de:=stepR_op_skip (P:=P) (b:=b) (a:=a) (k:=k) (cs:=cs) (w:=w) (ops:=aB) (i:=i) (rest:=is) (by simp[z,hg]);rw[z]at de;exact after (bZ.refl Q) (VR.ajS Q) C (dj.refl R w) (.one de) he
   |true=>
    have hg:=hg (Ec L);rw[L]at he hg;simp only[bi]at he;have e:=stepGR_op (P:=P) (b:=b) (a:=a) (k:=k) (cs:=cs) (w:=w) (rest:=is) z hg;have plain:∀{v:AV}{H':ai},aH x.op fr.ac H=some (v,H')->Go.al.aB False cV ab n l {fr with ac:=aO fr.ac x.dst v} H' K->gP P R Q A w b k cs (lone (b.atR a (.inRegion aB (i::is)::k)) cs w) λj fr H=>(match j with|.none=>True|_=>False)/\K fr H:=by
     intro v H' t J;have p:bL P A o=some x.op:=by
      rw[X]at t;rw[X];split at t;·simp[aH]at t
      rename_i G;rw[an G];cases I:bL P A o with|none=>rw[I]at t;simp[aH]at t|some q=>rfl
     rw[Oper.semAt_eq _ _ _ (yL p)]at e;have⟨c,w',y,r,h,D,s,F⟩:=yJ (dk.mk B.E C) p t;refine after h D s F (.one (step_lone_go ?_)) J;rw[e,<-u];rcases y with S|⟨S,rfl⟩;·exact A5 S
     exact D7 S
    split at he
    .rename_i f args d;have m:bL P A o=some (.call f args)/\vY o.op=true:=by
      rw[X]at d;split at d;·cases d
      rename_i G;rw[d]at G;simp only[bJ.yt,ajB,aiM,Bool.not_eq_false]at G;refine⟨?_,G⟩;cases I:bL P A o with|none=>rw[I]at d;cases d|some q=>rw[I]at d;simp only[aiX]at d;rw[d]
     have⟨c,g,ho,ag,h1,h2⟩:=IQ m.2 m.1;rw[Oper.semAt_eq _ _ _ (yL m.1)]at e;have W:execOp a.eval o=mQ (a.eval g) (c.args.map a.eval):=by simp only[execOp,ho,resolve,ag,mQ]
     rw[W]at e;have N:aZ Q (args.map (gv fr.ac)) (c.args.map a.eval).toList:=by rw[Array.toList_map];exact wm B.E C h2
     have⟨v,H',c',w',fr1,ax,w1,F,⟨r,h,D,s,O⟩,hb,hs⟩:=M he (wl h1 B.E C) N C (b.atR a (.inRegion aB (i::is)::k)) cs (by trivial);refine after h D s O ?_ F;rw[<-u];exact .head (step_lone_go (by grind)) hs
    .rename_i it d;have p:bL P A o=some (.j6 it):=by
      rw[X]at d;split at d;·cases d
      cases I:bL P A o with|none=>rw[I]at d;cases d|some q=>rw[I]at d;simp only[aiX]at d;rw[d]
     split at he;·rename_i aw ay G;have⟨j,cd,hj,av,c,w',y,r,h,D,s,F⟩:=IK (dk.mk B.E C) p G;have he:=he j hj;simp only[av]at he;rw[Oper.semAt_eq _ _ _ (yL p)]at e;refine after h D s F (.one (step_lone_go ?_)) he;rw[e,<-u];rcases y with S|⟨S,rfl⟩;all_goals grind[A5,D7]
     grind
    grind
end
section
variable{P:Program}
def IR(P:Program)(ab:Nat->aV)(n:Nat):Prop:=
 ∀{e:b8}{c:aM}{H:ai}{w:World}{d:Nat}{fr:Fr}{l:List bD}{id:Nat}{aB:Array Oper}{K:Fr->ai->Prop}{b:Frame}{a:Act},uc P d aB true=some l->Go.al.aB False cV ab n l fr H K->gf c d fr b.roundOf a->bo P e c H w->
  ∀(k:List Item)(cs:List Frame),gP P e c d w b k cs (lone (b.atR a (.code (.region id aB true)::k)) cs w) λj fr H=>(match j with|.none=>True|_=>False)/\K fr H
theorem wy.pT{x:Item}(a:∀id k,exitTo id (x::k)=exitTo id k){k:List Item}{j:bY}{t:List Item}(hj:match j with|.none=>False|_=>True)(h:wy (x::k) j t):wy k j t:=by cases j with|none=>grind|exit id=>obtain⟨b,h1,h2⟩:=h;exact⟨b,h1,h2.trans (a id k)⟩|ret=>exact h
theorem Q7{b:Nat}{aB:Array Oper}{l:List bD}(h:uc P b aB false=some l):wB P b aB (ah7 aB.size) l:=by
 simp only[uc,afN,ab1,Bool.not_false,bi,ahZ,abv]at h;obtain⟨c,h,rfl⟩:=h;have key:∀(cz a:List Oper)(l:List bD),aB.toList=cz++a->a.mapM (oT P b aB)=some l->wB P b aB (List.range' cz.length a.length) l:=by
  intro cz a;induction a generalizing cz with
  |nil=>intro l _ h;simp at h;subst h;simp[wB]
  |cons o a f=>
   intro l e h;simp only[ajx,afN,ab1,ahZ,abv]at h;obtain⟨x,g,c,d,rfl⟩:=h;simp only[air,List.range'_succ,wB];refine⟨⟨o,?_,g⟩,?_⟩;·rw[<-Array.getElem?_toList,e];simp
   have:=f (cz++[o]) c (by rw[e];simp) d;simpa using this
 have:=key [] aB.toList c rfl h;simp_all[List.range_eq_range']
section
variable{b:Frame}{a:Act}{k:List Item}{cs:List Frame}{w:World}
theorem IS{c:Code}:step P (lone (b.atR a (.code (.scope c)::k)) cs w)=.next (lone (b.atR a (.code c:: .inScope c::k)) cs w):=step_lone_go (by rfl)
theorem IT{c:Code}:step P (lone (b.atR a (.inScope c::k)) cs w)=.next (lone (b.atR a k) cs w):=step_lone_go (by rfl)
end
theorem wC{h:b8}{c:aM}{H:ai}{w:World}(i:bo P h c H w){l:ah}{st:pI}{bS:bY}{fn:Nat}{ac:az AV}{g:List ah}{as bd:bm}{d:ah}(hl:H.get l=.loop st bS fn ac g as bd d){b:Nat}{x:Nat}(hb:c l=some (b,x)):∃r,x=0/\w.heap[b]?=some (.loop r)/\nK st r.state/\nM bS r.pending/\c d=some (r.defers,0)/\r.params.toList.map ah.cG=g/\∃f,gO c f ac r.tmps/\(∀p∈r.params.toList,p<f)/\dH P f r.assign=some as/\dH P f r.body=some bd:=by have⟨n,o,j,e,k,m,a⟩:=i.aE (i:=l) (by grind);rw[hb]at e;injection e with e;injection e with e1 e2;subst e1;subst e2;rw[hl]at a;cases j<;>simp only[OR]at a;grind
theorem yM{b:Nat}{r:Loop}{w:World}(h:w.heap[b]?=some (.loop r)):(Instr.getLoop b).run P w=.ok r w:=by simp[h,Instr.getLoop,Sem.run_bind,wx,Result.andThen_ok,Sem.run_pure]
theorem Ed{e:b8}{f:aM}{H:ai}{w:World}(i:bo P e f H w){l:ah}{st:pI}{bS:bY}{fn:Nat}{ac:az AV}{g:List ah}{as bd:bm}{d:ah}(hl:H.get l=.loop st bS fn ac g as bd d){b:Nat}(hb:f l=some (b,0)){r:Loop}(j:w.heap[b]?=some (.loop r)){st':pI}{pend':bY}{s':LoopState}{p':Option Code}(h1:nK st' s')(h2:nM pend' p')(c:Nat):(setObj b (.loop {r with state:=s',pending:=p'})).run P w=.ok () {w with heap:=w.heap.setIfInBounds b (.loop {r with state:=s',pending:=p'})}/\bo P e f (H.set l (.loop st' pend' c ac g as bd d)) {w with heap:=w.heap.setIfInBounds b (.loop {r with state:=s',pending:=p'})}/\dj e w {w with heap:=w.heap.setIfInBounds b (.loop {r with state:=s',pending:=p'})}:=by
 have⟨o,_,a,p,q,k,m,n⟩:=wC i hl hb;rw[j]at a;injection a with a;injection a with a;subst a;have h:H.get l≠.none:=by rw[hl];simp
 have hu:=i.oW (i:=l) (o':=.loop st' pend' c ac g as bd d) (ob':=.loop {r with state:=s',pending:=p'}) h (by rw[hl];rfl) hb rfl (by simp only[OR];exact⟨trivial,h1,h2,k,m,n⟩) (by simp[eP]) (w':={w with heap:=w.heap.setIfInBounds b (.loop {r with state:=s',pending:=p'})}) rfl rfl rfl rfl;rw[hl]at hu;exact⟨wt w j (λ_ _ _=>by simp) _,hu.1,hu.2⟩
end
section
variable{P:Program}
theorem Q8{ab:Nat->aV}{n:Nat}(Q:rp P ab n){V:b8}{z:aM}{H:ai}{w:World}{A:Nat}{fr:Fr}{f:Operand}{of:aJ}{q:Array Tmp}{as bd:Code}{C F:bm}{K:bY->Fr->ai->Prop}{b:Frame}{a:Act}(hf:ff P A f=some of)(a':dH P A as=some C)(ba:dH P A bd=some F)(bb:∀p∈q.toList,p<A)(he:exec False cV ab (n+1) (.rangeFunc of (q.toList.map ah.cG) C F) fr H K)(J:gf z A fr b.roundOf a)(W:bo P V z H w)(k:List Item)(cs:List Frame):gP P V z A w b k cs (lone (b.atR a (.code (.rangeFunc f q as bd)::k)) cs w) K:=by
 have I:∀{g:aM}{H1:ai}{i:World}{fr1:Fr}{mark:List Deferred}{d:ah}{bd':Nat},bZ z g->dj V w i->bo P V g H1 i->gf g A fr1 b.roundOf {a with defers:=mark++a.defers}->g d=some (bd',0)->fr1.ac=fr.ac->(Instr.enterLoop b.fn a.tmps q as bd b.roundOf).run P w=.ok (i.heap.size,mark) {i with heap:=i.heap.push (.loop {state:=.ready,pending:=none,fn:=b.fn,tmps:=a.tmps,params:=q,assign:=as,body:=bd,defers:=bd'})}->(fu False cV ab n (gv fr1.ac of) [.yield H1.next] (H1.new (.loop .ready .none 0 fr1.ac (q.toList.map ah.cG) C F d)) λ_ H'=>match H'.get H1.next with
  |.loop st bS fn ac q as bd d=>match st with|.busy=>False|_=>K bS fr1 (H'.set H1.next (.loop .exhausted bS fn ac q as bd d))
  |_=>False)->gP P V z A w b k cs (lone (b.atR a (.code (.rangeFunc f q as bd)::k)) cs w) K:=by
  intro g H1 i fr1 mark d bd' s bc N Y hd ax ay bv;have a1:∀j c y,g j=some (c,y)->c=i.heap.size->g.k i.heap.size=(0,0):=λj c y e hc=>by have:=N.d8 j c y e;omega
  have t:bZ g (g.add H1.next i.heap.size 0 (0,0)):=aM.pQ _ _ _ (N.dc _ (afM _)).2 a1;obtain⟨L,q2,q3⟩:=N.alloc (o:=.loop .ready .none 0 fr1.ac (q.toList.map ah.cG) C F d) (ob:=.loop {state:=.ready,pending:=none,fn:=b.fn,tmps:=a.tmps,params:=q,assign:=as,body:=bd,defers:=bd'}) (0,0) (by simp[eP]) aC rfl (by simp only[OR];exact⟨trivial,by simp[nK],by simp[nM],(t _ _ hd).1,by trivial,A,by rw[ax];exact(J.E.mono s).mono t,bb,a',ba⟩);have b0:VR (g.add H1.next i.heap.size 0 (0,0)) (gv fr1.ac of) (a.eval f):=wl (a:={a with defers:=mark++a.defers}) hf (Y.E.mono L) q2;obtain⟨v,H',c,w',b3,b4,w2,hK,⟨b6,m,hv,Z,S⟩,hb,hs⟩:=Q bv b0 (args:=[.yield H1.next]) (argv:= #[.func (.yield i.heap.size) #[] #[]]) (by simp only[aZ,VR];exact⟨⟨aM.eA ..,by trivial,by trivial⟩,trivial⟩) q2 (b.atR {a with defers:=mark++a.defers} (.inRangeFunc i.heap.size::k)) cs (by simp[pS,Frame.atR]);rw[finish_atR_inRangeFunc]at hs;split at hK
  .rename_i st bS fn ac ag av aw d' hl;have u:=(m _ _ (aM.eA g H1.next i.heap.size 0 (0,0))).1;have⟨r,_,B,g1,M,_⟩:=wC Z hl u;have b7:st≠.busy/\K bS fr1 (H'.set H1.next (.loop .exhausted bS fn ac ag av aw d')):=by cases st<;>first|exact hK.elim|exact⟨aC,hK⟩
   have⟨s1,s2,s3⟩:=Ed Z hl u B (st':=.exhausted) (s':=.exhausted) (pend':=bS) (p':=r.pending) (by simp[nK]) M fn;have a2:(Instr.endLoop i.heap.size).run P w'=.ok r.pending {w' with heap:=w'.heap.setIfInBounds i.heap.size (.loop {r with state:=.exhausted,pending:=r.pending})}:=by
    have de:(r.state==.busy)=false:=by cases hs:r.state<;>rw[hs]at g1<;>cases st<;>simp_all[nK]
    simp only[Instr.endLoop,Sem.run_bind,yM B,Result.andThen_ok,de,acg,bF,Sem.run_pure];have:(setObj i.heap.size (.loop {r with state:=.exhausted})).run P w'=_:=s1;rw[this];rfl
   have G:step P (lone (b.atR a (.code (.rangeFunc f q as bd)::k)) cs w)=.next (lone b3 b4 w2):=by
    refine step_lone_go ?_;rw[<-hb];have O:=Frame.eval_atR b {a with defers:=mark++a.defers} (.inRangeFunc i.heap.size::k);simp only[Frame.atR]at O;have a6:(({a with defers:=mark++a.defers}:Act)).eval=a.eval:=by funext x;cases x<;>rfl
    rw[a6]at O;have a8:(do let d<-resolve a.eval {callee:=.value f,args:= #[.const (.func (.yield i.heap.size) #[] #[])],argTypes:= #[]} 0;invoke d.target d.args)=mQ (a.eval f) #[.func (.yield i.heap.size) #[] #[]]:=by simp[mQ,resolve,Act.eval]
    simp only[stepG,stepG.exec,Frame.atR,Sem.runT_eq,ay,GStep.bare_after,O,a8]
   have T:wy k bS ((r.pending.map Item.code).toList++k):=by cases hp:r.pending with|none=>rw[hp]at M;cases bS<;>simp_all[nM,wy]|some cc=>rw[hp]at M;cases bS with|none=>simp[nM]at M|exit id=>cases cc<;>simp only[nM]at M;subst M;exact⟨k,rfl,rfl⟩|ret=>cases cc<;>simp only[nM]at M;exact⟨k,rfl⟩
   refine⟨bS,fr1,_,b6,{a with defers:=mark++a.defers},_,_,b7.2,s.trans (L.trans m),(Y.mono L).mono m,s2,bc.trans (q3.trans (S.trans s3)),T,.head G (hs.trans (.one (stepR_endRangeFunc a2)))⟩
  exact hK.elim
 simp only[exec]at he;cases B:b.roundOf with
 |none=>
  have o:fr.bz=none:=by have:=J.R;rw[B]at this;cases h:fr.bz<;>rw[h]at this<;>simp_all[mO]
  rw[o]at he;simp only at he;have s:bZ z (z.add H.next w.heap.size 0 (0,0)):=aM.pQ _ _ _ (W.dc _ (afM _)).2 (λj c y e hc=>by have:=W.d8 j c y e;omega);have⟨L,q2,q3⟩:=W.alloc (o:=.deferred false) (ob:=.deferred (some [])) (0,0) (by simp[eP]) aC rfl (by simp[OR]);refine I (fr1:=⟨fr.ac,H.next::fr.bA,none⟩) (mark:=[{target:=.collected w.heap.size,args:= #[]}]) (d:=H.next) (bd':=w.heap.size) L q3 q2 ⟨J.E.mono L,?_,?_⟩ (aM.eA ..) rfl ?_ he;·simp only[aiR,aiY,kS];exact⟨⟨w.heap.size,aM.eA ..,rfl⟩,J.D.mono L⟩
  .simp only[B,mO]
  simp only[B,Instr.enterLoop,Sem.run_bind,run_newObj,Result.andThen_ok,Sem.run_pure]
 |some l=>
  obtain⟨X,o⟩:∃X,fr.bz=some X:=by have:=J.R;rw[B]at this;cases h:fr.bz with|none=>rw[h]at this;simp[mO]at this|some X=>exact⟨X,rfl⟩
  have b':z X=some (l,0):=by have:=J.R;rw[B,o]at this;exact this
  rw[o]at he;simp only at he;split at he;·rename_i st bS fn ac ag av aw d' hl;have⟨r,_,ca,_,_,g3,_⟩:=wC W hl b';refine I (mark:=[]) (d:=d') (bd':=r.defers) (bZ.refl z) (dj.refl V w) W (by simpa using J) g3 rfl ?_ he;simp[Instr.enterLoop,B,yM ca]
  exact he.elim
theorem Steps.Q9{m b a:Machine}(h:Steps P m a)(hs:step P m=.next b)(d:a≠m):Steps P b a:=by have⟨n,c⟩:=h;cases n with|zero=>simp_all[runN,Stepped.next.injEq,absurd]|succ n=>simp only[runN,hs]at c;exact⟨n,c⟩
theorem Q'{ab:Nat->aV}(ht:iX P ab){n:Nat}(o:wA P ab n)(J:A8 P ab n)(F:IR P ab n)(G:rp P ab n):wA P ab (n+1):=by
 intro Wr M H w nt fr c cc K b a d he z A k cs;induction cc generalizing k c with
 |skip=>simp only[dH,abv]at d;subst d;simp only[exec]at he;exact .gI (.one stepR_skip) (.A9 z A he k cs)
 |label l=>simp only[dH,abv]at d;subst d;simp only[exec]at he;exact .gI (.one stepR_label) (.A9 z A he k cs)
 |region id aB L=>
  simp only[dH,af0]at d;obtain⟨l,hl,rfl⟩:=d;simp only[exec]at he;cases L with
  |false=>refine .gI (.one stepR_region) ((J (Q7 hl) he z A k cs).mono ?_);rintro j fr H⟨h1,h2⟩;cases j<;>first|exact h2|exact h1.elim
  |true=>refine(F hl he z A k cs).mono ?_;rintro j fr H⟨h1,h2⟩;cases j<;>first|exact h2|exact h1.elim
 |seq x y W X=>
  simp only[dH]at d;split at d
  .rename_i S a8 C N;injection d with d;split at d
   .rename_i t Y;subst d;simp only[exec]at he;split at he
    .rename_i g hg;split at he;·rename_i a6 H' Z;refine(ht.dL t g hg C N (Ov.PQ _ _ Y).symm Z z A k cs).mono ?_;rintro j fr1 H1⟨rfl,rfl,rfl⟩;exact he
     exact he.elim
    exact he.elim
   subst d;simp only[exec]at he;have⟨j,q,H',r,B,w',t,h1,h2,h3,s,u,v,D⟩:=o C he z A (.code y::k) cs;refine .gI (.one stepR_seq) (.gI D ?_);cases j with|none=>rw[show t=.code y::k from v];exact .sD h2 u (o N h1 h3 s k cs)|exit id=>exact⟨.exit id,q,H',r,B,w',t,h1,h2,h3,s,u,v.pT (λ_ _=>rfl) trivial,Steps.refl _ _⟩|ret=>exact⟨.ret,q,H',r,B,w',t,h1,h2,h3,s,u,v.pT (λ_ _=>rfl) trivial,Steps.refl _ _⟩
  cases d
 |cond c0 x y W X=>
  simp only[dH]at d;split at d
  .rename_i oc S a8 h0 C N;injection d with d;subst d;simp only[exec]at he;have O:=wl h0 z.E A;split at he;·rename_i h;rw[h]at O;exact .gI (.one (stepR_cond O.oX)) (o C he z A k cs)
   .rename_i h;rw[h]at O;exact .gI (.one (stepR_cond O.oX)) (o N he z A k cs)
   exact he.elim
  cases d
 |block id x T=>
  simp only[dH,af0]at d;obtain⟨S,C,rfl⟩:=d;simp only[exec]at he;have⟨j,q,H',r,B,w',t,h1,h2,h3,s,u,v,D⟩:=o C he z A (.inBlock id::k) cs;refine .gI (.one stepR_block) (.gI D ?_);cases j with
  |none=>rw[show t=.inBlock id::k from v];exact .gI (.one stepR_inBlock) ⟨.none,q,H',r,B,w',k,h1,h2,h3,s,u,rfl,Steps.refl _ _⟩
  |exit i=>
   obtain⟨Q,rfl,I⟩:=v;simp only at h1;split at h1
   .rename_i hi;have hi:=ah5 hi;subst hi;have:exitTo i Q=some k:=by rw[I];simp[exitTo]
    exact .gI (.one (stepR_exit this)) ⟨.none,q,H',r,B,w',k,h1,h2,h3,s,u,rfl,Steps.refl _ _⟩
   rename_i hi;have ag:(id==i)=false:=by have:¬id=i:=λe=>hi (by subst e;exact aje _);simpa using this
   exact⟨.exit i,q,H',r,B,w',_,h1,h2,h3,s,u,⟨Q,rfl,by rw[I];simp[exitTo,ag]⟩,Steps.refl _ _⟩
  |ret=>exact⟨.ret,q,H',r,B,w',t,h1,h2,h3,s,u,v,Steps.refl _ _⟩
 |loop x T=>have av:=d;simp only[dH,af0]at d;obtain⟨S,C,rfl⟩:=d;simp only[exec]at he;have⟨j,q,H',r,B,w',t,h1,h2,h3,s,u,v,D⟩:=o C he z A (.inLoop x::k) cs;refine .gI (.one stepR_loop) (.gI D ?_);cases j with|none=>rw[show t=.inLoop x::k from v];have⟨j2,aw,H2,ax,a',w2,V,e1,e2,e3,e4,e5,R,e7⟩:=o av h1 h3 s k cs;have hs:=Steps.Q9 e7 stepR_loop (by intro e;have:V=.code (.loop x)::k:=congrArg (λm:Machine=>(m.gs.getD 0 (default:Goroutine)).frame.todo) e;cases j2 with|none=>have h:=R;rw[show V=k from h]at this;have:=congrArg List.length this;simp at this|exit id=>obtain⟨Q,h,_⟩:=R;rw[h]at this;cases this|ret=>obtain⟨Q,h⟩:=R;rw[h]at this;cases this);exact⟨j2,aw,H2,ax,a',w2,V,e1,h2.trans e2,e3,e4,u.trans e5,R,.head stepR_inLoop hs⟩|exit id=>exact⟨.exit id,q,H',r,B,w',t,h1,h2,h3,s,u,v.pT (λ_ _=>rfl) trivial,Steps.refl _ _⟩|ret=>exact⟨.ret,q,H',r,B,w',t,h1,h2,h3,s,u,v.pT (λ_ _=>rfl) trivial,Steps.refl _ _⟩
 |scope x T=>simp only[dH]at d;have⟨j,q,H',r,B,w',t,h1,h2,h3,s,u,v,D⟩:=T d he (.inScope x::k);refine .gI (.one IS) (.gI D ?_);cases j with|none=>rw[show t=.inScope x::k from v];exact .gI (.one IT) ⟨.none,q,H',r,B,w',k,h1,h2,h3,s,u,rfl,Steps.refl _ _⟩|exit id=>exact⟨.exit id,q,H',r,B,w',t,h1,h2,h3,s,u,v.pT (λ_ _=>rfl) trivial,Steps.refl _ _⟩|ret=>exact⟨.ret,q,H',r,B,w',t,h1,h2,h3,s,u,v.pT (λ_ _=>rfl) trivial,Steps.refl _ _⟩
 |rangeFunc f ps as bd=>
  simp only[dH]at d;split at d
  .rename_i of ba bb h0 ay a1;split at d;·rename_i a2;injection d with d;subst d;exact Q8 G h0 ay a1 (λp hp=>by have:=ai8.1 a2 p hp;simpa using this) he z A k cs
   cases d
  cases d
 |exit id=>simp only[dH,abv]at d;subst d;simp only[exec]at he;exact⟨.exit id,fr,H,M,a,w,_,he,bZ.refl M,z,A,dj.refl Wr w,⟨k,rfl,rfl⟩,Steps.refl _ _⟩
 |ret=>simp only[dH,abv]at d;subst d;simp only[exec]at he;exact⟨.ret,fr,H,M,a,w,_,he,bZ.refl M,z,A,dj.refl Wr w,⟨k,rfl⟩,Steps.refl _ _⟩
 |goto l=>simp[dH]at d
 |refuse bc=>simp[dH]at d
end
section
variable{P:Program}
theorem Ra{ab:Nat->aV}(ht:iX P ab){n:Nat}(i:wA P ab n):rp P ab (n+1):=by
 intro Wr W H w fa args K fv argv he hf ha hI fr cs hat;simp only[fu]at he;split at he
 .rename_i f first e;obtain⟨x,y,hx,hy,rfl⟩:=hf.AQ;have eB:aZ W (first++args++e) ((x++argv++y).toList):=by simp only[Array.toList_append];exact aZ.append (aZ.append hx ha) hy
  have I:mQ (.func (.func f) x y) argv=callFunc f (x++argv++y):=by simp[mQ,Deferred.ofValue,invoke]
  split at he;·exact he.elim
  .exact he.elim
  .rename_i g hg;split at he;·rename_i v H' ba;obtain⟨v',cy,c,w',fr1,bb,T,⟨rfl,rfl⟩,hp,hb,hs⟩:=ht.fF f g hg ba eB hI fr cs hat;exact⟨_,_,c,w',fr1,bb,T,he,hp,hb,hs⟩
   exact he.elim
  rename_i nt rs body hg;obtain⟨fn,M,X,Q⟩:=ht.code f nt rs body hg;split at he;case isFalse=>exact he.elim
  rename_i N;have N:=aib N;simp only[pP,afN,ab1,ahZ,abv,aV.code.injEq]at X;obtain⟨cc,Y,cn,R,bc,bv,e1,e2,e3⟩:=X;subst e1;subst e2;subst e3;have o:(callFunc f (x++argv++y)).run P w=.ok (.enter f (x++argv++y)) w:=by simp only[callFunc,Sem.run_bind,run_program,Result.andThen_ok,M,Q,Y,Option.isNone_some,acg,bF,Sem.run_pure]
  let b:Frame:={(default:Frame)with fn:=f,kind:=.normal};let a:Act:={tmps:=(x++argv++y)++ajI (fn.ntmps - (x++argv++y).size) undef,defers:=[]};have z:Frame.enter P f (x++argv++y) .normal=b.atR a [.code cc]:=by simp only[Frame.enter,Frame.atR,M,Y,b,a,aip,aiX,ajq];rfl
  have hF:gf W fn.ntmps ⟨jf (first++args++e) .xH .aR,[],none⟩ b.roundOf a:=⟨D9 eB N,trivial,trivial⟩;obtain⟨j,Z,H',b0,a',w',t,h1,h2,h3,h4,h5,h6,h7⟩:=i R he hF hI [] (fr::cs);have a1:∃L:Frame,L={b.atR a' L.todo with mode:=.returning}/\step P (lone (b.atR a' t) (fr::cs) w')=.next (lone L (fr::cs) w'):=by cases j with|none=>rw[show t=[]from h6];exact⟨_,rfl,stepR_end rfl⟩|exit id=>exact h1.elim|ret=>obtain⟨k0,rfl⟩:=h6;exact⟨_,rfl,stepR_ret rfl⟩
  obtain⟨L,k,de⟩:=a1;have m:(match iw H' Z.bA with
   |some H=>match fc Z.ac H bc with|some l=>K (fZ l) H|none=>False
   |none=>False):=by cases j with|none=>exact h1|exit id=>exact h1.elim|ret=>exact h1
  split at m
  .rename_i H2 hm;split at m
   .rename_i l hl;have a2:L={L with defers:=a'.defers}:=by rw[k];rfl
    obtain⟨G,s1,s2,s3⟩:=A6 h4 h3.D hm L (fr::cs) (by rw[k]);rw[<-a2]at s1;obtain⟨c,hc,hv⟩:=Eb s2 h3.E bv hl;refine⟨fZ l,H2,c,G,_,_,_,m,⟨b0,h2,hv,s2,h5.trans s3⟩,IL hat o,?_⟩;rw[z];refine h7.trans (.head de (s1.trans (.one ?_)));refine step_leave_returned ⟨by rw[k],rfl,by rw[k];rfl,fn,by rw[k];exact M,?_⟩;rw[k];exact hc
   exact m.elim
  exact m.elim
 .rename_i l;obtain⟨bl,O,rfl⟩:=hf.AR;have I:mQ (.func (.yield bl) #[] #[]) argv=Instr.yield bl argv:=by simp[mQ,Deferred.ofValue,invoke]
  rw[I];split at he
  .rename_i st bS cE ac ps as bd d hl;obtain⟨r,_,hr,g1,g2,g3,g4,nt,g5,g6,g7,g8⟩:=wC hI hl O;split at he
   .split at he;case isFalse=>exact he.elim
    rename_i q;have b3:argv.size=r.params.size:=by have e1:=aZ.length ha;rw[<-g4]at q;simp at e1 q;omega
    have o:(Instr.yield bl argv).run P w=.ok (.round bl r.fn ((r.params.zip argv).foldl (λtmps(t,a)=>tmps.setIfInBounds t a) r.tmps) r.assign r.body) w:=by simp only[Instr.yield,Sem.run_bind,yM hr,Result.andThen_ok,b3,ne_eq,not_true_eq_false,bF,Sem.run_pure]
    let b:Frame:={(default:Frame)with fn:=r.fn,kind:=.normal,roundOf:=some bl};let a:Act:={tmps:=(r.params.zip argv).foldl (λtmps(t,a)=>tmps.setIfInBounds t a) r.tmps,defers:=[]};have A:Frame.round bl r.fn a.tmps r.assign r.body .normal=b.atR a [.code r.assign,.beginRound,.code r.body]:=rfl;have hE:gO W nt (l7 ps args ac) a.tmps:=by
     have:=IN (ps:=r.params.toList) g5 ha (by rw[q,<-g4,aig]);rw[g4]at this;have e2:a.tmps=(r.params.toList.zip argv.toList).foldl (λtmps(p:Tmp×Value)=>tmps.setIfInBounds p.1 p.2) r.tmps:=by show(r.params.zip argv).foldl _ _=_;rw[<-Array.foldl_toList,Array.toList_zip]
     rw[e2];exact this
    have hF:gf W nt ⟨l7 ps args ac,[],some l⟩ b.roundOf a:=⟨hE,trivial,O⟩;obtain⟨j,fr1,H1,cR,ds,T,t,h1,h2,h3,h4,h5,h6,h7⟩:=i g7 he hF hI [.beginRound,.code r.body] (fr::cs);split at h1
    .rename_i S b4 cx c8 nO c9 d1 ag;rw[show t=[.beginRound,.code r.body]from h6]at h7;have s:=(h2 _ _ O).1;obtain⟨V,_,av,q1,q2,q3,q4,c',q5,q6,q7,q8⟩:=wC h4 ag s;obtain⟨s1,s2,s3⟩:=Ed h4 ag s av (st':=.busy) (s':=.busy) (pend':=S) (p':=V.pending) (by simp[nK]) q2 b4;have B:V.state=.ready:=by cases hs:V.state<;>rw[hs]at q1<;>simp_all[nK]
     have C:(Instr.beginRound bl).run P T=.ok () {T with heap:=T.heap.setIfInBounds bl (.loop {V with state:=.busy,pending:=V.pending})}:=by simp only[Instr.beginRound,Sem.run_bind,yM av,Result.andThen_ok];have:(setObj bl (.loop {V with state:=.busy})).run P T=_:=s1;rw[this];simp only[Result.andThen_ok,B,Sem.run_pure]
     obtain⟨j2,dm,H2,b6,cv,G,t2,e1,e2,e3,e4,e5,e6,e7⟩:=i g8 h1 h3 s2 [] (fr::cs);have F:Steps P (lone (Frame.round bl r.fn a.tmps r.assign r.body .normal) (fr::cs) w) (lone (b.atR cv t2) (fr::cs) G):=by rw[A];exact h7.trans (.head (stepR_beginRound rfl C) e7)
     split at e1
     .rename_i dr cp aw a6 b7 b' ca d2 ax;have J:=(e2 _ _ s).1;have⟨r2,_,ay,z1,z2,z3,z4,z5⟩:=wC e4 ax J;have aq:∀(j:bY)(u:Option Code)(st':pI)(s':LoopState),nK st' s'->nM j u->s'=(if u.isNone then .ready else .done)->K (.bool u.isNone) (H2.set l (.loop st' j aw a6 b7 b' ca d2))->(∀{v:Value}{w':World},(Instr.endRound bl u).run P G=.ok v w'->step P (lone (b.atR cv t2) (fr::cs) G)=.next (lone (fr.finish v) cs w'))->wz P Wr W w (Instr.yield bl argv) fr cs K:=by
       intro j u st' s' y1 y2 y3 y4 y5;have⟨u1,u2,u3⟩:=Ed e4 ax J ay (st':=st') (s':=s') (pend':=j) (p':=u) y1 y2 aw;have a8:(Instr.endRound bl u).run P G=.ok (.bool u.isNone) {G with heap:=G.heap.setIfInBounds bl (.loop {r2 with state:=s',pending:=u})}:=by simp only[Instr.endRound,Sem.run_bind,yM ay,Result.andThen_ok,<-y3,u1,Sem.run_pure]
       exact⟨_,_,.bool u.isNone,_,_,_,_,y4,⟨b6,h2.trans e2,by simp[VR],u2,h5.trans (s3.trans (e5.trans u3))⟩,Q4 hat o,F.trans (.one (y5 a8))⟩
      cases j2 with|none=>have cd:t2=[]:=e6;subst cd;exact aq .none none .ready .ready (by simp[nK]) (by simp[nM]) rfl e1 (λh=>stepR_round_end rfl rfl h)|exit id=>obtain⟨k0,rfl,cf⟩:=e6;exact aq (.exit id) (some (.exit id)) .done .done (by simp[nK]) (by simp[nM]) rfl e1 (λh=>stepR_round_exit rfl rfl cf h)|ret=>obtain⟨k0,rfl⟩:=e6;exact aq .ret (some .ret) .done .done (by simp[nK]) (by simp[nM]) rfl e1 (λh=>stepR_round_ret rfl rfl h)
     exact e1.elim
    exact h1.elim
   exact he.elim
  exact he.elim
 exact he.elim
end
section
variable{P:Program}{ac env':az AV}{H H1 H':ai}{v:AV}
theorem mR:∀{x:aJ},(∀p∈x.ch,ac.get .ajS p=env'.get .ajS p)->gv ac x=gv env' x|.t p,h=>h p (by simp[aJ.ch])|.c _,_=>rfl
theorem Ba:∀{l:List aJ},(∀p∈l.flatMap aJ.ch,ac.get .ajS p=env'.get .ajS p)->l.map (gv ac)=l.map (gv env')|[],_=>rfl|x::l,h=>by simp only[ai9,adX]at h;simp only[ah2,mR (x:=x) λp a=>h p (.inl a),Ba (l:=l) λp a=>h p (.inr a)]
theorem Ee{x:Option aJ}(h:∀p∈AI x,ac.get .ajS p=env'.get .ajS p)(d y:Nat):jq ac x d y=jq env' x d y:=by cases x with|none=>rfl|some x=>simp only[jq,mR (x:=x) h]
theorem Ef:∀{a:List (Nat×Nat×aJ)},(∀p∈a.flatMap (λp=>p.2.2.ch),ac.get .ajS p=env'.get .ajS p)->∀l,lJ ac l a=lJ env' l a
 |[],_,_=>rfl
 |(off,size,x)::a,h,l=>by
  simp only[ai9,adX]at h;simp only[lJ,mR (x:=x) λp b=>h p (.inl b)];split
  .split;·exact Ef (λp b=>h p (.inr b)) _
   rfl
  rfl
theorem Eg{op:bJ}(h:∀p∈op.ch,ac.get .ajS p=env'.get .ajS p)(H:ai):aH op ac H=aH op env' H:=by
 cases op<;>simp only[bJ.ch,adX]at h;case build i j=>grind[aH,Ef]
 case buildSlice e n i j=>grind[aH,Ef]
 case lf f a b=>grind[aH,Ba]
 case mJ b l=>grind[aH,Ba]
 case gW e s x a b c=>simp only[aH,mR (x:=x) λp g=>h p (.inl g),Ee (x:=a) λp g=>h p (.inr (.inl g)),Ee (x:=b) λp g=>h p (.inr (.inr (.inl g))),Ee (x:=c) λp g=>h p (.inr (.inr (.inr g)))]
 case pick c a b=>grind[aH,mR]
 case jI d m k v=>simp only[aH,mR (x:=m) λp g=>h p (.inl g),mR (x:=k) λp g=>h p (.inr (.inl g)),mR (x:=v) λp g=>h p (.inr (.inr g))]
 all_goals first|rfl|(simp only[aH,mR h];done)|(rename_i x y;simp only[aH,mR (x:=x) λp g=>h p (.inl g),mR (x:=y) λp g=>h p (.inr g)];done)
theorem Rb{op:bJ}(d:op.plain=true)(he:aH op ac H=some (v,H1)):H1=H/\∀H',aH op ac H'=some (v,H'):=by
 cases op<;>(try(simp[bJ.plain]at d;done));case gW e s x lo hi f=>
  cases lo with
  |some q=>simp[bJ.plain]at d
  |none=>
   simp only[aH,Option.isNone_none,Bool.or_true,Bool.true_or,bi]at he⊢;split at he;·simp only[afN,ab1,abv,ahW]at he;obtain⟨m,e1,c,e2,l,b,rfl,rfl⟩:=he;exact⟨rfl,λH'=>by simp[e1,e2,b]⟩
   .simp only[afN,ab1,abv,ahW]at he;obtain⟨m,e1,c,e2,l,b,rfl,rfl⟩:=he;exact⟨rfl,λH'=>by simp[e1,e2,b]⟩
   cases he
 case nH x a=>
  simp only[aH]at he⊢;split at he;·rw[af0]at he;have⟨q,h1,h2⟩:=he;rw[ahW]at h2;obtain⟨rfl,rfl⟩:=h2;exact⟨rfl,λH'=>by rw[h1];rfl⟩
  cases he
 all_goals simp only[aH]at he⊢;first|(simp only[abv,ahW]at he;obtain⟨rfl,rfl⟩:=he;exact⟨rfl,λ_=>rfl⟩)|(simp only[af0,ahW]at he;obtain⟨a,h1,rfl,rfl⟩:=he;exact⟨rfl,λ_=>by simp[h1]⟩)|(split at he<;>first|(cases he;done)|(simp only[abv,ahW]at he;obtain⟨rfl,rfl⟩:=he;exact⟨rfl,λ_=>rfl⟩)|(simp only[af0,ahW]at he;obtain⟨a,h1,rfl,rfl⟩:=he;exact⟨rfl,λ_=>by simp[h1]⟩)|(simp only[afN,ab1,abv,ahW]at he;obtain⟨m,e1,c,e2,l,b,rfl,rfl⟩:=he;exact⟨rfl,λH'=>by simp[e1,e2,b]⟩)|(simp only[afN,ab1,abv,ahW]at he;obtain⟨c,e2,l,b,rfl,rfl⟩:=he;exact⟨rfl,λH'=>by simp[e2,b]⟩)|(split at he<;>first|(cases he;done)|(simp only[abv,ahW]at he;obtain⟨rfl,rfl⟩:=he;exact⟨rfl,λ_=>by simp[*]⟩)|(simp only[af0,ahW]at he;obtain⟨a,h1,rfl,rfl⟩:=he;exact⟨rfl,λ_=>by simp[*]⟩)|(split at he<;>first|(cases he;done)|(simp only[abv,ahW]at he;obtain⟨rfl,rfl⟩:=he;exact⟨rfl,λ_=>by simp[*]⟩))))
def bJ.target(ac:az AV):bJ->Option ah
 |.be a|.eF _ a|.sj a|.oJ a=>gZ (gv ac a)
 |.lookup _ _ _ m _=>gZ (gv ac m)
 |.gW _ _ x _ _ b=>match gv ac x with
  |.slice id _ _ _ false=>if b.isSome then none else some id
  |_=>none
 |_=>none
theorem IU{id:ah}{off n:Nat}{l:List AV}(h:dE H id off n=some l):H.get id≠.none/\∀H',H'.get id=H.get id->dE H' id off n=some l:=by grind[dE]
theorem IV{a:AV}{n:Nat}{g:Bool}(h:gY H a n g=some v):∃id off,a=.aD id off/\H.get id≠.none/\∀H',H'.get id=H.get id->gY H' a n g=some v:=by
 unfold gY at h⊢;split at h
 .rename_i id off;split at h;·rename_i l hl;have⟨h1,h2⟩:=IU hl;grind
  grind
 grind
theorem IW{op:bJ}(p:op.iV=true)(he:aH op ac H=some (v,H1)):H1=H/\(∀j,op.target ac=some j->H.get j≠.none)/\∀H',(∀j,op.target ac=some j->H'.get j=H.get j)->aH op ac H'=some (v,H'):=by
 cases op<;>(try(simp[bJ.iV]at p;done));case be a=>simp only[aH,af0,ahW]at he⊢;obtain⟨q,h1,rfl,rfl⟩:=he;have⟨id,off,r,h2,h3⟩:=IV h1;refine⟨rfl,λj hj=>?_,λH' hj=>⟨q,h3 H' (hj id ?_),by rfl,aC⟩⟩;all_goals simp_all[bJ.target,gZ,abv]
 case eF n a=>simp only[aH,af0,ahW]at he⊢;obtain⟨q,h1,rfl,rfl⟩:=he;have⟨id,off,r,h2,h3⟩:=IV h1;refine⟨rfl,λj hj=>?_,λH' hj=>⟨q,h3 H' (hj id ?_),by rfl,aC⟩⟩;all_goals simp_all[bJ.target,gZ,abv]
 case sj x=>
  simp only[aH]at he⊢;split at he;·rename_i b;obtain⟨rfl,rfl⟩:=he;refine⟨rfl,λj hj=>?_,λH' hj=>by rfl⟩;simp_all[bJ.target,gZ]
  .rename_i id b;split at he;·rename_i hi;obtain⟨rfl,rfl⟩:=he;refine⟨rfl,λj hj=>?_,λH' hj=>?_⟩;all_goals simp_all[bJ.target,gZ,abv]
   .rename_i hi;obtain⟨rfl,rfl⟩:=he;refine⟨rfl,λj hj=>?_,λH' hj=>?_⟩;all_goals simp_all[bJ.target,gZ,abv]
   grind
  grind
 case oJ x=>
  simp only[aH]at he⊢;split at he;·rename_i b;obtain⟨rfl,rfl⟩:=he;refine⟨rfl,λj hj=>?_,λH' hj=>by rfl⟩;simp_all[bJ.target,gZ]
  .rename_i id off len c e b;split at he;·rename_i l hl;simp only[af0,ahW]at he;obtain⟨q,h1,rfl,rfl⟩:=he;have⟨h2,h3⟩:=IU hl;refine⟨rfl,λj hj=>?_,λH' hj=>?_⟩;all_goals simp_all[bJ.target,gZ,abv]
   grind
  grind
 case lookup d z ok m k=>
  simp only[aH]at he⊢;split at he;·cases he
  rename_i f;split at he;·rename_i b;simp only[abv,ahW]at he;obtain⟨rfl,rfl⟩:=he;refine⟨rfl,λj hj=>?_,λH' hj=>by simp[b,f]⟩;simp[bJ.target,b,gZ]at hj
  .rename_i id b;have i:bJ.target ac (.lookup d z ok m k)=some id:=by simp only[bJ.target,b,gZ]
   split at he;all_goals(try(cases he;done))
   all_goals
    rename_i hi;refine⟨?_,λj hj=>?_,λH' hj=>?_⟩;·split at he<;>first|(cases he;done)|(simp only[abv,ahW]at he;exact he.2.symm)
    .rw[i]at hj;injection hj with hj;subst hj;rw[hi];simp
    have:=hj id i;simp only[b,f,this,hi,acg,bF];split at he<;>first|(cases he;done)|(simp only[abv,ahW]at he;rename_i t;simp only[t,he.1])
  cases he
 case gW e s x lo hi o=>
  simp only[aH]at he⊢;split at he;·rename_i b;simp only[afN,ab1,abv,ahW]at he;obtain⟨m,e1,u,e2,l,w,rfl,rfl⟩:=he;refine⟨rfl,λj hj=>?_,λH' hj=>by grind⟩;simp_all[bJ.target]
  .rename_i id off len cap ex b;simp only[afN,ab1]at he;have⟨m,e1,u,e2,l,w,he⟩:=he;split at he
   .rename_i h;obtain⟨rfl,rfl⟩:=he;refine⟨rfl,λj hj=>?_,λH' hj=>?_⟩
    .cases lo with
     |none=>trivial
     |some lo=>
      simp only[bJ.target,b]at hj;cases ex with
      |true=>grind
      |false=>
       simp only at hj;split at hj;·grind
       rename_i g;injection hj with hj;subst hj;simp only[Bool.false_or,Option.isNone_some,Bool.or_false,ai6,g,false_or]at h;grind[pN]
    have y:(ex||o.isSome||lo.isNone||pN H' id e)=true:=by cases ex with|true=>simp|false=>cases g:o.isSome with|true=>simp|false=>rw[g]at h;have:=hj id (by simp[bJ.target,b,g]);simpa[pN,this]using h
    grind
   grind
  grind
inductive kD where
 |aD
 |slice(len cap:Nat)(exact:Bool)
 |map
def kD.of(n:kD)(i:ah):AV:=
 match n with
 |.aD=>.aD i 0
 |.slice l c e=>.slice i 0 l c e
 |.map=>.map i
theorem kD.name(n:kD)(i:ah):gZ (n.of i)=some i:=by cases n<;>rfl
def bP.kE:bP->Prop
 |.cells _ _ _ rw aK _=>rw=true/\aK=[]
 |.map es _=>es=[]
 |.ky _ _ _=>True
 |_=>False
theorem Rc{op:bJ}(d:op.kQ=true)(he:aH op ac H=some (v,H1)):∃(n:kD)(dp:bP),v=n.of H.next/\H1=H.new dp/\dp.kE/\∀H',aH op ac H'=some (n.of H'.next,H'.new dp):=by
 cases op<;>(try(simp[bJ.kQ]at d;done));case alloc e a=>simp only[aH,abv,ahW]at he⊢;obtain⟨rfl,rfl⟩:=he;exact⟨.aD,_,rfl,rfl,⟨rfl,rfl⟩,λ_=>⟨rfl,rfl⟩⟩
 case kw=>simp only[aH,abv,ahW]at he⊢;obtain⟨rfl,rfl⟩:=he;exact⟨.map,_,rfl,rfl,rfl,λ_=>⟨rfl,rfl⟩⟩
 case box e x=>
  simp only[aH]at he⊢;split at he;·rename_i h1;obtain⟨rfl,rfl⟩:=he;exact⟨.aD,_,rfl,rfl,⟨rfl,rfl⟩,λ_=>by simp only[h1,bi];rfl⟩
  grind
 case buildSlice e n a f=>
  simp only[aH]at he⊢;split at he
  .split at he;·rename_i h1;obtain⟨rfl,rfl⟩:=he;exact⟨.slice n n true,_,rfl,rfl,⟨rfl,rfl⟩,λ_=>by simp only[h1,bi];rfl⟩
   grind
  grind
 case mH e b s a x y=>
  simp only[aH]at he⊢;split at he
  .rename_i l c hl g;split at he;·rename_i h1;obtain⟨rfl,rfl⟩:=he;exact⟨.slice l c true,_,rfl,rfl,⟨rfl,rfl⟩,λ_=>by simp only[h1,bi];rfl⟩
   grind
  grind
 case pH x=>
  simp only[aH]at he⊢;split at he;·obtain⟨rfl,rfl⟩:=he;exact⟨.aD,_,rfl,rfl,trivial,λ_=>rfl⟩
  grind
theorem Re{a b:AV}(h:eV a b=true):a=b:=by
 have h1:∀{a b:AV},cC a b=true->a=b:=by intro a b h;cases a<;>cases b<;>simp only[cC,acg]at h<;>first|rfl|(simp only[beq_iff_eq]at h;rw[h])|(simp only[ah4,Nat.beq_eq,dV,beq_iff_eq]at h;obtain⟨rfl,rfl⟩:=h;rfl)|(simp only[sy,beq_iff_eq]at h;rw[h])|(simp only[ah4,Nat.beq_eq,ah.fg]at h;obtain⟨rfl,rfl⟩:=h;rfl)|(simp only[ah.fg]at h;rw[h])|(simp only[ah4,Nat.beq_eq,ah.fg,beq_iff_eq]at h;obtain⟨⟨⟨⟨rfl,rfl⟩,rfl⟩,rfl⟩,rfl⟩:=h;rfl)
 have h2:∀{l m:List AV},j8 l m=true->l=m:=by intro l;induction l with|nil=>intro m h;cases m<;>simp[j8]at h;rfl|cons a l c=>intro m h;cases m with|nil=>simp[j8]at h|cons b m=>simp only[j8,ah4]at h;rw[h1 h.1,c h.2]
 unfold eV at h;split at h;·grind
 .grind
 .simp only[ah4,Nat.beq_eq]at h;grind
 grind
end
section
variable{P:Program}{h:b8}{ρ:aM}{H:ai}{w:World}
theorem Eh{H a:ai}(hg:∀j,a.get j=H.get j\/a.get j=.none)(i j:ah)(hi:i∈(a.get j).aK):i∈(H.get j).aK:=by
 rcases hg j with e|e;·rw[e]at hi;exact hi
 rw[e]at hi;cases hi
theorem bo.sub(l:bo P h ρ H w){H2:ai}(d:H2.next=H.next)(hg:∀j,H2.get j=H.get j\/H2.get j=.none):bo P h ρ H2 w:=by
 have a:∀j,H2.get j≠.none->H2.get j=H.get j:=λj hj=>(hg j).resolve_right hj;have f:=Eh hg;constructor;·intro i hi;have e:=a i hi;rw[e]at hi⊢;exact l.dp i hi
 .intro i j b x y c hi hj;have e:=a i hi;have g:=a j hj;rw[e]at hi⊢;rw[g]at hj⊢;exact l.ju i j b x y c hi hj
 .intro i j hi;have⟨h1,h2⟩:=l.aK i j (f i j hi);grind
 .intro i b x hi;have e:=a i hi;rw[e]at hi⊢;exact l.wr i b x hi
 .intro i hi;rw[d]at hi;have⟨h1,h2⟩:=l.dc i hi;exact⟨by rcases hg i with e|e<;>rw[e];exact h1,h2⟩
 .exact l.new
 .exact l.kC
 .intro i b x k hi;have e:=a i hi;rw[e]at hi⊢;exact l.iJ i b x k hi
 .exact l.d8
 .intro i b x hi;have e:=a i hi;rw[e]at hi;exact l.rd i b x hi
 .intro i hi;have⟨h1,h2,h3⟩:=l.un i hi;exact⟨by rcases hg i with e|e<;>rw[e];exact h1,by rw[d];exact h2,λj hj=>h3 j (f i j hj)⟩
 exact l.dM
def b8.iY(h:b8)(ρ:aM)(hl:ah->Prop)(dd:ah->Prop):b8 where
 w b:=h.w b/\∀i x,hl i->ρ i≠some (b,x)
 r b:=h.r b/\∀i x,hl i->ρ i≠some (b,x)
 un i:=h.un i\/hl i\/dd i
 dM i:=h.dM i\/dd i
theorem pU{o:bP}(a:o.kE):o.jL=false/\o.aK=[]/\o≠.none:=by cases o<;>simp[bP.kE]at a<;>simp[bP.jL,bP.aK];omega
theorem bo.iY(z:bo P h ρ H w){hl dd:ah->Prop}(p:∀i,hl i->(H.get i).kE)(hd:∀i,dd i->H.get i=.none/\ρ i=none/\i.am<H.next.am/\∀j,i∉(H.get j).aK){H2:ai}(g:H2.next=H.next)(hg:∀j,H2.get j=H.get j\/H2.get j=.none)(q:∀i,hl i->H2.get i=.none):bo P (h.iY ρ hl dd) ρ H2 w:=by
 have hs:=z.sub g hg;have m:∀j,H2.get j≠.none->H2.get j=H.get j:=λj hj=>(hg j).resolve_right hj;have r:=Eh hg;have lm:∀j b x,H2.get j≠.none->ρ j=some (b,x)->∀i y,hl i->ρ i≠some (b,y):=by
  intro j b x hj t i y hi u;have⟨l,s,d⟩:=pU (p i hi);have n:i≠j:=λe=>hj (e▸q i hi);have o:H.get j≠.none:=by rw[<-m j hj];exact hj
  rcases z.ju i j b y x n d o u t with⟨f,_⟩|⟨f,_⟩;·have:=(z.aK i j f).2 d;rw[l]at this;cases this
  rw[s]at f;cases f
 constructor;·exact hs.dp
 .exact hs.ju
 .exact hs.aK
 .intro i b x hi v e;exact⟨hs.wr i b x hi v e,λk y c=>lm i b x hi e k y c⟩
 .exact hs.dc
 .intro k c;have a:∀i x,hl i->ρ i≠some (k,x):=λi x _ e=>by have:=z.d8 i k x e;omega
  exact⟨⟨(z.new k c).1,a⟩,⟨(z.new k c).2,a⟩⟩
 .exact hs.kC
 .exact hs.iJ
 .exact hs.d8
 .intro i b x hi e;exact⟨hs.rd i b x hi e,λk y c=>lm i b x hi e k y c⟩
 .intro i hi;rcases hi with hi|hi|hi;·exact hs.un i hi
  .have⟨l,s,d⟩:=pU (p i hi);refine⟨q i hi,by rw[g];exact z.AJ d,λj hj=>?_⟩;have:=(z.aK i j (r i j hj)).2 d;rw[l]at this;cases this
  have⟨h0,h1,h2,h3⟩:=hd i hi;exact⟨by rcases hg i with e|e<;>rw[e];exact h0,by rw[g];exact h2,λj hj=>h3 j (r i j hj)⟩
 intro i hi;rcases hi with hi|hi;·exact⟨.inl (hs.dM i hi).1,(hs.dM i hi).2⟩
 exact⟨.inr (.inr hi),(hd i hi).2.1⟩
theorem bo.Ei(N:bo P h ρ H w){hl dd:ah->Prop}(A:∀i,hl i->(H.get i).kE){l:aM}{H':ai}{w':World}(o:bZ ρ l)(f:bo P (h.iY ρ hl dd) l H' w')(p:dj (h.iY ρ hl dd) w w'){H2:ai}(J:H2.next=H'.next)(h1:∀i,hl i->H2.get i=H.get i)(h2:∀i,¬hl i->H2.get i=H'.get i):bo P h l H2 w'/\dj h w w':=by
 have c:∀i,hl i->∃b x q,ρ i=some (b,x)/\l i=some (b,x)/\l.k b=ρ.k b/\w.heap[b]?=some q/\w'.heap[b]?=some q/\OR P ρ (H.get i) x q:=by intro i hi;have⟨b,x,q,e,D,hb,K⟩:=N.aE (pU (A i hi)).2.2;exact⟨b,x,q,e,(o _ _ e).1,(o _ _ e).2,hb,by rw[p.block b D λB=>B.2 i x hi e];exact hb,K⟩
 have v:∀i j,i∈(H2.get j).aK->¬hl i/\¬hl j/\i∈(H'.get j).aK:=by
  intro i j hj;by_cases d:hl j;·rw[h1 j d,(pU (A j d)).2.1]at hj;cases hj
  rw[h2 j d]at hj;exact⟨λhi=>(f.un i (.inr (.inl hi))).2.2 j hj,d,hj⟩
 refine⟨⟨?_,?_,?_,?_,?_,?_,?_,?_,?_,?_,?_,?_⟩,⟨p.os,p.tape,p.output,p.size,λk h1 B=>p.block k h1 λE=>B E.1⟩⟩
 .intro i hi;by_cases a:hl i;·grind[OR.mono]
  rw[h2 i a]at hi⊢;exact f.dp i hi
 .intro i j b x y t hi hj s m;by_cases a:hl i
  .have⟨b1,C,_,g,n,_⟩:=c i a;rw[n]at s;injection s with s;injection s with F G;subst F;subst G;by_cases d:hl j;·have⟨b2,L,_,c1,c2,_⟩:=c j d;rw[c2]at m;injection m with m;injection m with r u;subst r;subst u;rw[h1 i a]at hi⊢;rw[h1 j d]at hj⊢;exact N.ju i j _ _ _ t hi hj g c1
   rw[h2 j d]at hj;exact absurd g ((f.rd j _ y hj m).2 i _ a)
  by_cases d:hl j;·have⟨b2,L,_,c1,c2,_⟩:=c j d;rw[c2]at m;injection m with m;injection m with r u;subst r;rw[h2 i a]at hi;exact absurd c1 ((f.rd i _ x hi s).2 j _ d)
  rw[h2 i a]at hi⊢;rw[h2 j d]at hj⊢;exact f.ju i j b x y t hi hj s m
 .intro i j hj;have⟨g,n,a3⟩:=v i j hj;have⟨b1,b2⟩:=f.aK i j a3;grind
 .intro i b x hi z e;by_cases a:hl i;·have⟨b1,C,_,g,n,_⟩:=c i a;rw[n]at e;injection e with e;injection e with e1 e2;subst e1;rw[h1 i a]at hi z;exact N.wr i _ _ hi z g
  rw[h2 i a]at hi z;exact(f.wr i b x hi z e).1
 .intro i hi;rw[J]at hi;have⟨g,n⟩:=f.dc i hi;grind
 .intro k I;exact N.new k (aji p.size I)
 .exact f.kC
 .intro i b x q hi e hb;by_cases a:hl i;·have⟨b1,C,M,g,n,a3,a4,a5,_⟩:=c i a;rw[n]at e;injection e with e;injection e with e1 e2;subst e1;rw[a5]at hb;injection hb with hb;subst hb;rw[h1 i a]at hi⊢;rw[a3];exact N.iJ i _ _ _ hi g a4
  rw[h2 i a]at hi⊢;exact f.iJ i b x q hi e hb
 .exact f.d8
 .intro i b x hi e;by_cases a:hl i;·have⟨b1,C,_,g,n,_⟩:=c i a;rw[n]at e;injection e with e;injection e with e1 e2;subst e1;rw[h1 i a]at hi;exact N.rd i _ _ hi g
  rw[h2 i a]at hi;exact(f.rd i b x hi e).1
 .intro i hi;have⟨g,n,a3⟩:=f.un i (.inl hi);have a:¬hl i:=λa=>(pU (A i a)).2.2 (N.un i hi).1;grind
 intro i hi;exact⟨(N.dM i hi).1,(f.dM i (.inl hi)).2⟩
mutual
theorem VR.pa{j r m:aM}(J:∀i x y,j i=some x->r i=some y->m i=some x/\m.k x.1=j.k x.1):∀(v:AV)(c d:Value),VR j v c->VR r v d->VR m v c
 |.tuple l,.tuple cs,.tuple s,k,q=>by exact aZ.pa J l cs.toList s.toList k q
 |.agg l,.agg cs,.agg s,k,q=>by exact aZ.pa J l cs.toList s.toList k q
 |.bool _,.bool _,_,k,_=>by trivial
 |.int _ _,.int _ _,_,k,_=>by trivial
 |.str _,.string _,_,k,_=>by trivial
 |.aD i o,.pointer (some a),.pointer (some B),k,q=>by
  obtain⟨b,x,e,rfl⟩:=k;obtain⟨w,C,z,_⟩:=q;exact⟨b,x,(J _ _ _ e z).1,rfl⟩
 |.j5,.pointer none,_,_,_=>by trivial
 |.slice i o len cap ex,.slice (some a) n c,.slice (some B) F p,k,q=>by
  obtain⟨h1,h2,h3,D,b,x,e,E,G⟩:=k;obtain⟨_,_,_,_,w,C,z,_⟩:=q
  exact⟨h1,h2,h3,D,b,x,(J _ _ _ e z).1,E,by grind⟩
 |.bh,.slice none 0 0,_,_,_=>by trivial
 |.map i,.map (some b),.map (some w),k,q=>by grind[VR]
 |.cL,.map none,_,_,_=>by trivial
 |.func f a b,.func (.func g) c d,.func (.func H) p A,k,q=>by
  exact⟨k.1,aZ.pa J a c.toList p.toList k.2.1 q.2.1,aZ.pa J b d.toList A.toList k.2.2 q.2.2⟩
 |.yield i,.func (.yield b) c d,.func (.yield w) p A,k,q=>by grind[VR]
 |.nilFunc,.nilFunc,_,_,_=>by trivial
 |.iface t v,.iface u c,.iface I p,k,q=>by exact⟨k.1,VR.pa J v c p k.2 q.2⟩
 |.nilIface,.nilIface,_,_,_=>by trivial
 |.bM,_,_,_,_=>by trivial
theorem aZ.pa{a e b:aM}(f:∀i x y,a i=some x->e i=some y->b i=some x/\b.k x.1=a.k x.1):∀(l:List AV)(m n:List Value),aZ a l m->aZ e l n->aZ b l m
 |[],[],_,_,_=>by trivial
 |v::l,c::m,d::n,k,q=>by exact⟨VR.pa f v c d k.1 q.1,aZ.pa f l m n k.2 q.2⟩
end
theorem OR.pa{d g f:aM}(F:∀i x y,d i=some x->g i=some y->f i=some x/\f.k x.1=d.k x.1){o:bP}(m:o.kE){t u:Nat}{b j:Obj}(k:OR P d o t b)(q:OR P g o u j):OR P f o t b:=by
 cases o with
 |cells c n e rw aK fz=>cases b<;>simp only[OR]at k⊢;cases j<;>simp only[OR]at q;have⟨v,w,A,B⟩:=k;have⟨_,_,C,_⟩:=q;refine⟨v,w,λi hi=>?_,B⟩;have⟨y,e1,D⟩:=A i hi;have⟨z,_,E⟩:=C i hi;exact⟨y,e1,VR.pa F _ _ _ D E⟩
 |map es c=>simp only[bP.kE]at m;subst m;cases b<;>simp only[OR]at k⊢;refine⟨k.1,k.2.1,k.2.2.1,?_⟩;have:=k.2.2.2;generalize(Array.toList _)=l at this⊢;cases l with|nil=>simp[cr]|cons a l=>simp[cr]at this
 |ky s r p=>cases b<;>simp only[OR]at k⊢;exact k
 |_=>simp[bP.kE]at m
end
section
variable{P:Program}{d:b8}{ρ:aM}{H:ai}{w:World}{nt:Nat}{ac:az AV}{a:Act}{o:Oper}{op:bJ}
theorem pb(n:ah):∀p:ah,ai.get ⟨.aR,n⟩ p=.none:=by
 have:∀p:ah,(az.aR:az bP).get .none p=.none:=by intro p;induction p with|xH=>rfl|xO p a=>exact a|xI p a=>exact a
 trivial
theorem bo.empty(h:bo P d ρ H w){n:ah}(c:H.next.am<=n.am):bo P ⟨λb=>w.heap.size<=b,λb=>w.heap.size<=b,λj=>ρ j=none/\j.am<n.am,λj=>ρ j=none/\j.am<n.am⟩ ρ ⟨.aR,n⟩ w:=by
 constructor;·intro i hi;exact absurd (pb n i) hi
 .intro i j b x y _ hi;exact absurd (pb n i) hi
 .intro i j hj;rw[pb]at hj;cases hj
 .intro i b x hi;exact absurd (pb n i) hi
 .intro i hi;exact⟨pb n i,(h.dc i (aji c hi)).2⟩
 .intro k a;exact⟨a,a⟩
 .exact h.kC
 .intro i b x e hi;exact absurd (pb n i) hi
 .exact h.d8
 .intro i b x hi;exact absurd (pb n i) hi
 .intro i hi;exact⟨pb n i,hi.2,λj hj=>by rw[pb]at hj;cases hj⟩
 intro i hi;exact⟨hi,hi.1⟩
theorem Rf(h:bo P d ρ H w)(hE:gO ρ nt ac a.tmps)(S:bL P nt o=some op){n:kD}{dp:bP}(hy:dp.kE)(he:∀H':ai,aH op ac H'=some (n.of H'.next,H'.new dp)){i:ah}(h1:ρ i=none)(h2:i.am<H.next.am)(h3:¬d.un i)(h4:∀j,i∉(H.get j).aK):bC P d ρ w (execOp a.eval o) (n.of i) (H.set i dp):=by
 have⟨f1,f2,T⟩:=pU hy;have⟨c,w',Q,v,X,E,I,F⟩:=yJ (dk.mk hE (h.empty (n:=H.next) (afM _))) S (he _);obtain⟨c2,w2,_,ag,xb,_,Ib,_⟩:=yJ (dk.mk hE (h.empty (n:=H.next.succ) (by rw[ah.eX];omega))) S (he _);have ga:(ai.new ⟨.aR,H.next⟩ dp).get H.next=dp:=by rw[ai.cO,aG rfl]
 have gb:(ai.new ⟨.aR,H.next.succ⟩ dp).get H.next.succ=dp:=by rw[ai.cO,aG rfl]
 obtain⟨s,C,L,e1,e2,e3⟩:=I.dp H.next (by rw[ga];exact T);obtain⟨bb,yb,a1,_,_,d3⟩:=Ib.dp H.next.succ (by rw[gb];exact T);rw[ga]at e3;rw[gb]at d3;have ay:w.heap.size<=s:=I.rd H.next s C (by rw[ga];exact T) e1;have R:∀j z,v j=some z->j≠H.next->ρ j=some z:=by
  intro j z J hj;cases hr:ρ j with
  |some z'=>have:=(X _ _ hr).1;rw[this]at J;exact J
  |none=>
   exfalso;rcases Nat.lt_trichotomy j.am H.next.am with hl|hl|hl;·have:=(I.dM j ⟨hr,hl⟩).2;rw[this]at J;cases J
   .exact hj (ah.rj hl)
   have:=(I.dc j (by show H.next.succ.am<=_;rw[ah.eX];omega)).2;rw[this]at J;cases J
 have av:ag H.next=none:=(Ib.dM H.next ⟨(h.dc _ (afM _)).2,by rw[ah.eX];omega⟩).2;have q:bZ ρ (ρ.add i s C (v.k s)):=aM.pQ s C _ h1 (λj c y e S=>by have:=(X _ _ e).2;simp only at this;rw[S]at this;exact this.symm);have aw:OR P (ρ.add i s C (v.k s)) dp C L:=by
  refine OR.pa ?_ hy e3 d3;intro j x y hx M;have hj:j≠H.next:=λe=>by rw[e,av]at M;cases M
  have:=R j x hx hj;exact⟨(q _ _ this).1,by rw[(q _ _ this).2,(X _ _ this).2]⟩
 have ef:∀k,k<w.heap.size->w'.heap[k]?=w.heap[k]?:=λk t=>F.block k t (by show¬w.heap.size<=k;omega);refine⟨c,w',Q,ρ.add i s C (v.k s),q,?_,?_,⟨F.os,F.tape,F.output,F.size,λk t _=>ef k t⟩⟩
 .cases n with
  |aD=>have⟨b,x,m,u⟩:=VR.l9 E;rw[e1]at m;injection m with m;injection m with G K;subst G;subst K;rw[u];exact⟨_,_,aM.eA ..,rfl⟩
  |slice l cp ex=>
   simp only[kD.of]at E⊢;cases c with
   |slice ad l' c'=>cases ad with|none=>simp[VR]at E|some ad=>simp only[VR]at E⊢;have⟨p1,p2,p3,p4,b,x,m,u,G⟩:=E;rw[e1]at m;injection m with m;injection m with K q5;subst K;subst q5;exact⟨p1,p2,p3,p4,_,_,aM.eA ..,u,by rw[aM.sr];exact G⟩
   |_=>simp[VR]at E
  |map=>have⟨b,m,u⟩:=VR.oY E;rw[e1]at m;injection m with m;injection m with G K;subst G;subst K;rw[u];simp only[kD.of,VR];exact aM.eA ..
 have hg:∀j,(H.set i dp).get j=if j=i then dp else H.get j:=λj=>ai.aF _ _ _ _;have D:∀j k,j∈((H.set i dp).get k).aK->k≠i/\j≠i/\j∈(H.get k).aK:=by
  intro j k hj;rw[hg]at hj;by_cases e:k=i;·rw[aG e,f2]at hj;cases hj
  rw[an e]at hj;exact⟨e,λe2=>h4 k (e2▸hj),hj⟩
 have f:∀j,j≠i->(ρ.add i s C (v.k s)) j=ρ j:=λj hj=>by simp[aM.add,hj]
 constructor
 .intro j hj;rw[hg]at hj⊢;by_cases e:j=i;·subst e;rw[aG rfl];exact⟨s,C,L,aM.eA ..,e2,aw⟩
  rw[an e]at hj⊢;have⟨b,x,V,g1,Y,Z,g4⟩:=h.aE hj;exact⟨b,x,V,by rw[f j e];exact g1,by rw[ef b Y];exact Z,OR.mono q g4⟩
 .intro j k b x y N hj t A B;rw[hg]at hj t;rw[hg,hg];by_cases e:j=i;·subst e;have p:k≠j:=λe=>N e.symm;rw[aM.eA]at A;injection A with A;injection A with A _;rw[f k p]at B;have:=h.d8 k b y B;omega
  by_cases p:k=i;·subst p;rw[aM.eA]at B;injection B with B;injection B with B _;rw[f j e]at A;have:=h.d8 j b x A;omega
  rw[an e]at hj⊢;rw[an p]at t⊢;rw[f j e]at A;rw[f k p]at B;exact h.ju j k b x y N hj t A B
 .intro j k hj;have⟨g1,Y,Z⟩:=D j k hj;have⟨m,u⟩:=h.aK j k Z;exact⟨m,λO=>by rw[hg,an Y]at O⊢;exact u O⟩
 .intro j b x hj hf e;rw[hg]at hj hf;by_cases p:j=i;·subst p;rw[aM.eA]at e;injection e with e;injection e with e _;exact(h.new b aa).1
  rw[an p]at hj hf;rw[f j p]at e;exact h.wr j b x hj hf e
 .intro j hj;have r:j≠i:=λe=>by subst e;have:H.next.am<=j.am:=hj;omega
  have⟨m,u⟩:=h.dc j hj;exact⟨by rw[hg,an r];exact m,by rw[f j r];exact u⟩
 .intro k t;exact h.new k (aji F.size t)
 .intro g ax;exact(q _ _ (h.kC g ax)).1
 .intro j b x V hj e hb;rw[hg]at hj⊢;by_cases p:j=i;·subst p;rw[aG rfl];rw[aM.eA]at e;injection e with e;injection e with W e5;subst W;rw[aM.sr];have:=I.iJ H.next _ _ V (by rw[ga];exact T) e1 hb;rw[ga]at this;exact this
  rw[an p]at hj⊢;rw[f j p]at e;rw[(q _ _ e).2];exact h.iJ j b x V hj e (by rw[<-ef b (h.d8 j b x e)];exact hb)
 .intro j b x e;by_cases p:j=i;·subst p;rw[aM.eA]at e;injection e with e;injection e with W _;subst W;exact I.d8 _ _ _ e1
  rw[f j p]at e;exact aim (h.d8 j b x e) F.size
 .intro j b x hj e;rw[hg]at hj;by_cases p:j=i;·subst p;rw[aM.eA]at e;injection e with e;injection e with W _;exact(h.new b aa).2
  rw[an p]at hj;rw[f j p]at e;exact h.rd j b x hj e
 .intro j hj;have⟨m,u,G⟩:=h.un j hj;have r:j≠i:=λe=>h3 (e▸hj);exact⟨by rw[hg,an r];exact m,u,λk t=>G k (D j k t).2.2⟩
 intro j hj;have r:j≠i:=λe=>h3 (e▸(h.dM j hj).1);exact⟨(h.dM j hj).1,by rw[f j r];exact(h.dM j hj).2⟩
end
section
variable{P:Program}{nt:Nat}{aB:Array Oper}{l:List bD}{anc:Array Nat}
def fh(anc:Array Nat)(i j:Nat):Prop:=(anc.getD i 0).testBit j=true
def In(L:Array Bool)(i:Nat):Prop:=L.getD i false=true
def kF(aB:Array Oper)(i j:Nat):Prop:=∃o e,aB[i]?=some o/\e∈o.after.toList/\Region.binds .any e=true/\e.on=j
theorem IX(a:Array Nat)(j:Nat):∀(es:List Edge)(s:Nat),(es.foldl (λs e=>if Region.binds .any e then s|||2^e.on|||a.getD e.on 0 else s) s).testBit j=true->s.testBit j=true\/∃e∈es,Region.binds .any e=true/\(j=e.on\/(a.getD e.on 0).testBit j=true)|[],s,h=>.inl h|e::es,s,h=>by simp only[List.foldl_cons]at h;rcases IX a j es _ h with h1|⟨b,he,h1⟩;all_goals grind
def rq(a:Array Nat)(o:Oper):Array Nat:=a.push (o.after.foldl (λs e=>if Region.binds .any e then s|||2^e.on|||a.getD e.on 0 else s) 0)
theorem Rg(aB:Array Oper):Region.before aB=aB.toList.foldl rq #[]:=by unfold Region.before;rw[<-Array.foldl_toList];rfl
theorem IY(aB:Array Oper):∀(b cz:List Oper)(a:Array Nat),aB.toList=cz++b->a.size=cz.length->(∀i j,(a.getD i 0).testBit j=true->∃k,kF aB i k/\k<i/\(j=k\/(a.getD k 0).testBit j=true)\/(kF aB i j))->∀i j,((b.foldl rq a).getD i 0).testBit j=true->∃k,kF aB i k/\k<i/\(j=k\/((b.foldl rq a).getD k 0).testBit j=true)\/(kF aB i j)
 |[],_,_,_,_,h=>h
 |o::b,cz,a,p,hs,h=>by
  refine IY aB b (cz++[o]) _ (by grind) (by simp[hs,rq]) ?_;intro i j c;have f:∀k,k<a.size->(rq a o).getD k 0=a.getD k 0:=by intro k l;simp only[rq,aiL];rw[ajl,an aa]
  have g:∀k,a.size<=k->a.getD k 0=0:=by intro k l;simp[aiL,ai3 l]
  rcases Nat.lt_trichotomy i a.size with hl|hl|hl
  .rw[f i hl]at c;obtain⟨k,l|l⟩:=h i j c;·grind
   simp_all
  .subst hl;have d:(rq a o).getD a.size 0=o.after.foldl (λs e=>if Region.binds .any e then s|||2^e.on|||a.getD e.on 0 else s) 0:=by simp only[rq,aiL];rw[ajl,aG rfl];rfl
   rw[d,<-Array.foldl_toList]at c;have n:aB[a.size]?=some o:=by rw[<-Array.getElem?_toList,p,hs];simp
   rcases IX a j _ _ c with h0|⟨e,he,hb,h1⟩;·grind
   rcases h1 with h1|h1;·exact⟨0,.inr ⟨o,e,n,he,hb,h1.symm⟩⟩
   have m:e.on<a.size:=by
    rcases aiU e.on a.size with q|q;·exact q
    rw[g _ q]at h1;simp at h1
   exact⟨e.on,.inl ⟨⟨o,e,n,he,hb,rfl⟩,m,.inr (by grind)⟩⟩
  grind[rq,Array.getD_eq_getD_getElem?,Array.getElem?_eq_none]
theorem Rh(aB:Array Oper){i j:Nat}(h:fh (Region.before aB) i j):∃k,kF aB i k/\k<i/\(j=k\/fh (Region.before aB) k j)\/kF aB i j:=by rw[Rg]at h⊢;exact IY aB aB.toList [] #[] rfl rfl (λi j h=>by grind) i j h
theorem sE{S:Nat->Prop}(a:∀i,S i->∀j,kF aB i j->S j):∀(i:Nat),(∀j,kF aB i j->S j)->∀j,fh (Region.before aB) i j->S j:=by intro i;induction i using Nat.strongRecOn with|ind i b=>grind[Rh]
theorem Ri(h:yw aB=true){i j:Nat}(hd:kF aB i j):j<i:=by
 obtain⟨o,e,h1,h2,h3,rfl⟩:=hd;unfold yw at h;rw[ai8]at h;have a:(o,i)∈aB.toList.zipIdx:=by rw[List.mem_zipIdx_iff_getElem?];rw[Array.getElem?_toList];exact h1
 grind[Array.all_eq_true_iff_forall_mem]
theorem Rj{L:Array Bool}(U:L.size=aB.size){i:Nat}(h:i∈Region.ready .any aB L):i<aB.size/\¬In L i/\∀j,kF aB i j->In L j:=by
 simp only[Region.ready,ajE,aiO,ah4,aiM]at h;have⟨h1,h2,h3⟩:=h;refine⟨h1,?_,?_⟩;·simp_all[In,aiL,getElem?_pos,aiX]
 rintro j⟨o,e,a,b,c,rfl⟩;grind[Array.all_eq_true_iff_forall_mem,In]
theorem Rl{L:Array Bool}(U:L.size=aB.size)(he:yw aB=true)(h:Region.ready .any aB L=[]):∀i,i<aB.size->In L i:=by
 intro i;induction i using Nat.strongRecOn with
 |ind i d=>
  intro hi;by_cases a:In L i;·omega
  have:i∈Region.ready .any aB L:=by
   simp only[Region.ready,ajE,aiO,ah4,aiM];refine⟨hi,?_,?_⟩;·have b:i<L.size:=aa;unfold In at a;simp only[aiL,getElem?_pos L i b,aiX]at a⊢;simpa using a
   rw[getElem?_pos aB i hi];simp only[aip,aiX,Array.all_eq_true_iff_forall_mem];intro e c;cases hb:Region.binds .any e with|false=>simp|true=>have hd:kF aB i e.on:=⟨aB[i],e,getElem?_pos aB i hi,by simpa using c,hb,rfl⟩;have b:=Ri he hd;have:=d e.on b aa;simp only[ait,Bool.false_or];exact this
  grind
def wD(L:Array Bool)(n:Nat):Nat:=((ah7 n).filter λi=>!L.getD i false).length
theorem IZ{p q:Nat->Bool}{i:Nat}:∀(r:List Nat),r.Nodup->i∈r->p i=true->q i=false->(∀j,j≠i->q j=p j)->(r.filter q).length+1=(r.filter p).length
 |[],_,h,_,_,_=>by grind
 |a::r,b,h,c,d,hj=>by
  rw[aiz]at b;by_cases e:a=i;·grind[List.filter_congr]
  have f:i∈r:=by
   rcases acT.1 h with q|q;·exact absurd q.symm e
   exact q
  have:=IZ r b.2 f c d hj;grind
theorem Ej{L:Array Bool}{i:Nat}(hi:i<L.size)(j:Nat):In (L.setIfInBounds i true) j↔j=i\/In L j:=by unfold In;by_cases e:i=j;all_goals simp_all[ajJ]
theorem Rm{L:Array Bool}{n i:Nat}(U:L.size=n)(hi:i<n)(h:¬In L i):wD (L.setIfInBounds i true) n+1=wD L n:=by
 refine IZ (i:=i) _ List.nodup_range (by grind) ?_ ?_ ?_;·simp_all[In]
 .simp_all
 intro j hj;have:=Ej (L:=L) (i:=i) aa j;unfold In at this;simp only[hj,false_or]at this;cases h1:L.getD j false<;>cases h2:(L.setIfInBounds i true).getD j false<;>simp_all
theorem Rn{L:Array Bool}{n i:Nat}(hi:i<n)(h:¬In L i):0<wD L n:=by apply List.length_pos_of_mem (a:=i);simp_all[In,aiL]
def eQ(l:List bD)(i:Nat)(t:ah):Prop:=∃x,l[i]?=some x/\x.dst=some t
def Mk(l:List bD)(ac:az AV)(i:Nat)(j:ah):Prop:=∃x d,l[i]?=some x/\x.op.kQ=true/\x.dst=some d/\gZ (ac.get .ajS d)=some j
def Ch(l:List bD)(i:Nat):Prop:=∃x,l[i]?=some x/\x.op.gN=true
theorem Ro{op:bJ}(h:op.gN=true):op.kQ=false/\op.iV=false/\op.plain=false:=by cases op<;>simp[bJ.gN]at h<;>simp[bJ.kQ,bJ.iV,bJ.plain]
theorem wE{op:bJ}(h:op.kQ=true):op.gN=false/\op.iV=false/\op.plain=false:=by cases op<;>simp[bJ.kQ]at h<;>simp[bJ.gN,bJ.iV,bJ.plain]
theorem wF{op:bJ}(h:op.iV=true):op.gN=false/\op.kQ=false/\op.plain=false:=by cases op<;>(try(simp[bJ.iV]at h;done))<;>simp[bJ.gN,bJ.kQ,bJ.plain];rename_i lo _ _;cases lo;all_goals trivial
theorem pc{i j:Nat}(h:rf l anc i j=true){x y:bD}(c:l[i]?=some x)(f:l[j]?=some y):i≠j/\¬fh anc i j/\(∀d,x.dst=some d->y.dst≠some d/\(d∈y.ka->fh anc j i))/\(∀d,y.dst=some d->d∈x.ka->fh anc j i/\x.op.iV=false)/\(x.op.gN=true->fh anc j i/\∀k,fh anc i k->fh anc j k):=by
 unfold rf at h;rw[c,f]at h;simp only[ah4,bne_iff_ne,ne_eq,aiM]at h;have⟨⟨⟨⟨h1,h2⟩,h3⟩,a⟩,b⟩:=h;refine⟨h1,by simp_all[fh],?_,?_,?_⟩
 .intro d hd;rw[hd]at h3;simp only[ah4,ai6,aiM]at h3;refine⟨λe=>?_,λg=>?_⟩;·grind
  rcases h3.2 with h|h;·exact h
  grind
 .intro d hd g;rw[hd]at a;simp only[ai6,ah4,aiM]at a;rcases a with h|h;·grind
  trivial
 intro m;simp only[m,ait,Bool.false_or,ah4,beq_iff_eq]at b;refine⟨b.1,λk n=>?_⟩;unfold fh at n⊢;grind
theorem yN:∀{ap:List Nat},vZ l anc ap=true->ap.Pairwise (λi j=>rf l anc i j=true)/\∀i∈ap,∃x,l[i]?=some x/\rh x=true|[],_=>⟨ajO,λi h=>by grind⟩|i::a,h=>by simp only[vZ,ah4,ai8]at h;have⟨⟨h1,h2⟩,h3⟩:=h;have⟨b,c⟩:=yN h3;grind[List.pairwise_cons]
theorem I0{b:Type}{R:b->b->Prop}:∀{s:List b},s.Pairwise R->∀{i j:b},i∈s->j∈s->i=j\/R i j\/R j i
 |[],_,i,_,h,_=>by grind
 |a::s,h,i,j,hi,hj=>by
  rw[ajc]at h;rcases acT.1 hi with e|e;·grind
  rcases acT.1 hj with c|c;·grind
  exact I0 h.2 e c
theorem eQ.inj{ap:List Nat}(f:vZ l anc ap=true){i j:Nat}(hi:i∈ap)(hj:j∈ap){t:ah}(h1:eQ l i t)(h2:eQ l j t):i=j:=by
 have⟨x,a,b⟩:=h1;have⟨y,c,d⟩:=h2;rcases I0 (yN f).1 hi hj with e|e|e;·omega
 .exact absurd d ((pc e a c).2.2.1 t b).1
 exact absurd b ((pc e c a).2.2.1 t d).1
def ix(ac:az AV)(a:List ah):List ah:=a.filterMap λp=>gZ (ac.get .ajS p)
theorem Bb(ac:az AV):∀(a:List ah)(H:ai)(j:ah),(dF ac H a).1.get j=(if j∈ix ac a then .none else H.get j)/\(dF ac H a).1.next=H.next/\∀H',(di H' (dF ac H a).2).get j=(if j∈ix ac a then H.get j else H'.get j)/\(di H' (dF ac H a).2).next=H'.next
 |[],H,j=>by simp[dF,ix,di]
 |p::a,H,j=>by
  unfold dF;cases f:gZ (ac.get .ajS p)with
  |none=>have:=Bb ac a H j;simpa[ix,f]using this
  |some i=>
   have b:=Bb ac a (H.set i .none) j;simp only;have c:∀q,q∈ix ac (p::a)↔q=i\/q∈ix ac a:=by intro q;simp[ix,f]
   refine⟨?_,by rw[b.2.1];rfl,λH'=>⟨?_,?_⟩⟩
   .rw[b.1,ai.aF];by_cases e:j=i;·subst e;simp[c]
    by_cases d:j∈ix ac a<;>simp[c,e,d]
   .rw[di,ai.aF,(b.2.2 H').1,ai.aF];by_cases e:j=i;·subst e;simp[c]
    by_cases d:j∈ix ac a<;>simp[c,e,d]
   rw[di,ai.eH];exact(b.2.2 H').2
theorem I1{seen:List Nat}{i:Nat}{ac:az AV}{j:ah}:j∈ix ac (yu l anc seen i)↔∃k∈seen,¬fh anc i k/\Mk l ac k j:=by
 simp only[ix,yu,List.mem_filterMap];constructor
 .rintro⟨p,⟨k,a,h1⟩,h2⟩;split at h1
  .rename_i r b;split at h1;·rename_i c;simp only[ah4,aiM]at c;exact⟨k,a,by simp_all[fh],r,p,b,c.1,h1,h2⟩
   grind
  grind
 rintro⟨k,a,h1,r,d,b,h2,h3,e⟩;refine⟨d,⟨k,a,?_⟩,e⟩;simp_all[fh,Bool.not_false,ajL,bi]
theorem Rp{seen:List Nat}{i k:Nat}(a:k∈seen){r:bD}(b:l[k]?=some r)(h1:r.op.iV=true)(h2:¬fh anc i k){d:ah}(hd:r.dst=some d):(⟨d,r.op,r.guard⟩:gX)∈iV l anc seen i:=by simp only[iV,List.mem_filterMap];refine⟨k,a,?_⟩;simp_all[fh,Bool.not_false,ajL,bi,aip]
theorem I3{ac:az AV}{H:ai}:∀{re:List gX},dX ac H re=true->∀r∈re,dZ ac r.guard=true->∃H1,aH r.op ac H=some (ac.get .ajS r.dst,H1)
 |[],_,r,h,_=>by cases h
 |a::re,h,r,b,hg=>by
  simp only[dX,ah4]at h;rcases acT.1 b with e|e
  .subst e;rw[hg]at h;simp only[bi]at h;have:=h.1;split at this;·rename_i w H1 c;rw[c,Re this];exact⟨H1,rfl⟩
   cases this
  exact I3 h.2 r e hg
end
end
end Go.al
end
