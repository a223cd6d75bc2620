/- A part. No conditions. -/
import Derived.Test.YtcipmlnpjkngpaaGreatDoorA00
import GoSem.Core.Region
import Derived.Control
import Derived.Below
import Derived.Laws.IdiomCopy
import Derived.Laws.Cells
import GoSem.Dispatch
import Derived.Laws.StructEq
import Derived.Lib.ConvBytes
import Derived.Laws.BytesString
import Derived.Laws.AppendOwn
import Derived.ChangeKeysEq
import Derived.Laws.RangeString
set_option linter.all false
open List renaming range->afD,getD->agt
open Nat renaming beq->aeF,blt->ae0
open Int renaming ofNat->afq
open Array renaming range->ags
open BitVec renaming ofInt->afr
open List.Perm renaming swap->afA
open UInt8 renaming toNat->af5,ofNat->agp
noncomputable section
namespace Go.ak
section
abbrev KT:=AV->ai->Prop
mutual
def fk:Value->Option AV
 |.bool b=>some (.bool b)
 |.int k n=>some (.int (kc k) n)
 |.string s=>some (.str (s.data.toList.map af5))
 |.pointer none=>some .j5
 |.slice none 0 0=>some .aG
 |.map none=>some .d9
 |.nilFunc=>some .nilFunc
 |.nilIface=>some .nilIface
 |.func (.func f) a b=>match qU a.toList,qU b.toList with
  |some a,some b=>some (.func f a b)
  |_,_=>none
 |.agg l=>(qU l.toList).map .agg
 |.tuple l=>(qU l.toList).map .tuple
 |.iface t v=>(fk v).map (.iface t)
 |_=>none
def qU:List Value->Option (List AV)
 |[]=>some []
 |v::l=>match fk v,qU l with
  |some v,some l=>some (v::l)
  |_,_=>none
end
variable(P:Program)(nt:Nat)
def eB:Operand->Option aK
 |.tmp a=>if a<nt then some (.t (af.cq a))else none
 |.const v=>(fk v).map .c
 |.global g=>if g<P.globals.size then some (.c (.aD (af.cq g) 0))else none
 |.func f=>some (.c (.func f [] []))
def qV(l:Array Operand):Option (List aK):=l.toList.mapM (eB P nt)
def ku:Option Operand->Option (Option aK)
 |none=>some none
 |some x=>(eB P nt x).map some
def im(t:TypeId):Option TypeInfo:=P.info? t
def eY(t:TypeId):Option TypeDesc:=P.underlying t
def dV(t:TypeId):Option Nat:=(P.info? t).map (·.size)
def uH(t:TypeId):Option Nat:=(P.info? t).map (·.bytes)
def lU(t:TypeId):Option AV:=(P.info? t).bind λi=>i.zero.bind fk
def lu(t:TypeId):Option Bool:=(P.underlying t).map λd=>match d with|.struct _|.array _ _=>true|_=>false
def gW:(fuel:Nat)->(const:Bool)->TypeId->Option cY
 |0,_,_=>none
 |f+1,const,t=>
  match P.underlying t with
  |some .bool=>some .bool
  |some (.int _)=>some .int
  |some .string=>some .str
  |some (.pointer e)=>match dV P e with
   |some (_+1)=>some .aD
   |_=>none
  |some (.slice _)=>some .slice
  |some (.map ..)=>some .map
  |some (.func ..)=>some .func
  |some (.interface b)=>some (.iface const b.isEmpty)
  |some (.struct fs)=>
   if P.stoodInHeld t then none else
   (fs.toList.mapM λ(g:Field)=>if g.name= "_" then none else match gW f false g.type,dV P g.type,lu P g.type with
    |some d,some s,some a=>some (g.offset,s,a,d)
    |_,_,_=>none).map .dw
  |some (.array n e)=>match gW f false e,dV P e,lu P e with
   |some d,some s,some a=>some (.dw ((afD n).map λi=>(i*s,s,a,d)))
   |_,_,_=>none
  |_=>none
def oP(t:TypeId):Option cY:=
 match P.underlying t with
 |some (.int _)|some .string|some .bool|some (.struct _)|some (.array ..)=>gW P 16 false t
 |_=>none
def uI(d:cY)(t:TypeId):Bool:=
 match d with
 |.dw _=>!P.eqGuardType P.depth t
 |_=>true
def nF:Operand->Bool
 |.const _=>true
 |_=>false
def bG(o:Oper):Option bC:=do
 let g:=eB P nt
 match o.op with
 |.move x|.assign x=>return .bw (<-g x)
 |.pick c a b=>return .pick (<-g c) (<-g a) (<-g b)
 |.alloc e=>return .alloc e (<-lU P e).cells
 |.box e x=>return .box e (<-g x)
 |.build t dw=>
  let r:=(<-lU P t).cells
  match<-eY P t with
  |.struct fs=>
   let u<-fs.toList.mapM λ(f:Field)=>(dV P f.type).map λs=>(f.offset,s)
   let l<-dw.toList.mapM λ(p:Nat×Operand)=>(u[p.1]?).bind λq=>(g p.2).map λx=>(q.1,q.2,x)
   return .build r l
  |.array _ e=>
   let s<-dV P e
   let l<-dw.toList.mapM λ(p:Nat×Operand)=>(g p.2).map λx=>(p.1*s,s,x)
   return .build r l
  |_=>none
 |.buildSlice t len dw=>
  match<-eY P t with
  |.slice e=>
   let s<-dV P e
   let r:=(<-lU P e).cells
   if r.length≠s\/s=0\/len*s>65536 then none else
   let l<-dw.toList.mapM λ(p:Nat×Operand)=>(g p.2).map λx=>(p.1*s,s,x)
   return .buildSlice e len r l
  |_=>none
 |.load t a=>if<-lu P t then return .fL (<-dV P t) (<-g a)else return .bk (<-g a)
 |.store t a x=>return .store (<-dV P t) (<-g a) (<-g x)
 |.nilCheck x=>return .nilCheck (<-g x)
 |.binOp op t x y _=>
  match op,<-eY P t with
  |.shl,.int _|.shr,.int _=>return .shift op (<-g x) (<-g y)
  |_,.int k=>return .arith op (kc k) (<-g x) (<-g y)
  |_,.string=>return .km op (<-g x) (<-g y)
  |.eql,_=>
   let d<-gW P 16 (nF x||nF y) t
   if uI P d t then return .eq false d (<-g x) (<-g y)else none
  |.neq,_=>
   let d<-gW P 16 (nF x||nF y) t
   if uI P d t then return .eq true d (<-g x) (<-g y)else none
  |_,_=>none
 |.unOp op _ x=>return .unary op (<-g x)
 |.convert s d x=>
  match<-eY P s,<-eY P d with
  |.int _,.int k=>return .jM (kc k) (<-g x)
  |.string,.string=>return .wT (<-g x)
  |.string,.slice e=>if(<-eY P e)matches .int .u8 then(if dV P e=some 1 then return .sy e (<-g x)else none)else none
  |.slice e,.string=>if(<-eY P e)matches .int .u8 then return .nf (<-g x)else none
  |_,_=>none
 |.makeInterface t x=>if(<-eY P t)matches .interface _ then none else return .sA t (<-g x)
 |.makeFunc (.func f) a b=>return .mu f (<-qV P nt a) (<-qV P nt b)
 |.makeMap _ none=>return .je
 |.makeMap _ (some _)=>none
 |.makeSlice t l c=>
  match<-eY P t with
  |.slice e=>
   let s<-dV P e
   let r:=(<-lU P e).cells
   if r.length≠s\/s=0 then none else return .ng e (<-uH P e) s r (<-g l) (<-g c)
  |_=>none
 |.slice t x lo hi z=>
  match<-eY P t with
  |.array n e=>if z.isSome&&hi.isNone then none else return .uo n (<-dV P e) (<-g x) (<-ku P nt lo) (<-ku P nt hi) (<-ku P nt z)
  |.slice e=>if z.isSome&&hi.isNone then none else
   let s<-dV P e
   if s=0 then none else return .gp e s (<-g x) (<-ku P nt lo) (<-ku P nt hi) (<-ku P nt z)
  |.string=>if z.isSome then none else return .sB (<-g x) (<-ku P nt lo) (<-ku P nt hi)
  |_=>none
 |.fieldAddr t x i=>
  match<-eY P t with
  |.struct fs=>
   let f<-fs[i]?
   if(<-dV P f.type)=0 then none else return .jx f.offset (<-g x)
  |_=>none
 |.field t x i=>
  match<-eY P t with
  |.struct fs=>
   let f<-fs[i]?
   return .part (<-lu P f.type) f.offset (<-dV P f.type) (<-g x)
  |_=>none
 |.indexAddr t x i=>
  match<-eY P t with
  |.array n e=>return .sC n (<-dV P e) (<-g x) (<-g i)
  |.slice e=>return .dO (<-dV P e) (<-g x) (<-g i)
  |_=>none
 |.index t x i=>
  match<-eY P t with
  |.array n e=>return .wU (<-lu P e) n (<-dV P e) (<-g x) (<-g i)
  |.string=>return .mw (<-g x) (<-g i)
  |_=>none
 |.lookup t m k ok=>
  match<-eY P t with
  |.map w e=>return .lookup (<-oP P w) (<-lU P e) ok (<-g m) (<-g k)
  |_=>none
 |.mapUpdate t m k v|.insert t m k v=>
  match<-eY P t with
  |.map w _=>return .iV (<-oP P w) (<-g m) (<-g k) (<-g v)
  |_=>none
 |.mapEntry t m k=>
  match<-eY P t with
  |.map w e=>return .mapEntry (<-oP P w) (<-lU P e) (<-g m) (<-g k)
  |_=>none
 |.entryStore _ m s v=>return .entryStore (<-g m) (<-g s) (<-g v)
 |.range t x=>match<-eY P t with
  |.string=>return .oK (<-g x)
  |.map .. =>return .ln (<-g x)
  |_=>none
 |.entry A=>return .pJ (<-g A)
 |.next A j=>if j then return .qQ (<-g A)else return .jy (<-g A)
 |.typeAssert x _ t ok=>if(<-eY P t)matches .interface _ then none else return .typeAssert t (<-lU P t) ok (<-g x)
 |.extract x i=>return .extract (<-g x) i
 |.call c=>
  match c.callee with
  |.value f=>return .call (<-g f) (<-qV P nt c.args)
  |.builtin b=>
   let h(i:Nat):Option aK:=(c.args[i]?).bind g
   match b with
   |.len=>match<-eY P (<-c.argTypes[0]?)with
    |.array n _=>(h 0).bind λ_=>some (.uq n)
    |.pointer e=>match<-eY P e with
     |.array n _=>(h 0).bind λ_=>some (.uq n)
     |_=>none
    |.string=>return .nj (<-h 0)
    |.slice _=>return .kn (<-h 0)
    |.map .. =>return .sD (<-h 0)
    |_=>none
   |.cap=>match<-eY P (<-c.argTypes[0]?)with
    |.slice _=>return .cap (<-h 0)
    |_=>none
   |.append=>match<-eY P (<-c.argTypes[0]?)with
    |.slice e=>
     let s<-dV P e
     let r:=(<-lU P e).cells
     if r.length≠s\/s=0\/c.args.size≠2 then none else
     let d<-eY P (<-c.argTypes[1]?)
     return .append e (<-uH P e) s r (d matches .int _) (<-h 0) (<-h 1)
    |_=>none
   |.copy=>match<-eY P (<-c.argTypes[0]?)with
    |.slice e=>return .copy (<-dV P e) (<-h 0) (<-h 1)
    |_=>none
   |.clear=>match<-eY P (<-c.argTypes[0]?)with
    |.slice e=>return .ur (<-lU P e).cells (<-h 0)
    |.map .. =>return .ut (<-h 0)
    |_=>none
   |.delete=>match<-eY P (<-c.argTypes[0]?)with
    |.map w _=>return .delete (<-oP P w) (<-h 0) (<-h 1)
    |_=>none
   |.min=>return .nk false (<-qV P nt c.args)
   |.max=>return .nk true (<-qV P nt c.args)
   |_=>none
  |_=>none
 |_=>none
def bC.fO:bC->Bool
 |.store .. |.iV .. |.mapEntry .. |.entryStore .. |.qQ _|.jy _|.ln _|.append .. |.copy .. |.ur .. |.ut .. |.delete .. |.call .. |.lq=>true
 |_=>false
def bC.jC:bC->Bool
 |.box .. |.alloc .. |.buildSlice .. |.sy .. |.je|.ng .. |.oK _=>true
 |_=>false
def bC.gX:bC->Bool
 |.bk _|.fL .. |.lookup .. |.sD _|.nf _|.gp _ _ _ (some _) _ _=>true
 |_=>false
def bC.plain:bC->Bool
 |.bw _|.pick .. |.build .. |.nilCheck _|.arith .. |.shift .. |.km .. |.eq .. |.unary .. |.jM .. |.wT _|.sA .. |.mu .. |.uo .. |.sB .. |.jx .. |.part .. |.sC .. |.dO ..
 |.wU .. |.mw .. |.typeAssert .. |.extract .. |.uq _|.nj _|.kn _|.cap _|.nk .. |.gp _ _ _ none _ _=>true
 |_=>false
def aK.bV:aK->List af
 |.t p=>[p]
 |.c _=>[]
def uJ:Option aK->List af
 |some x=>x.bV
 |none=>[]
def bC.bV:bC->List af
 |.bw x|.box _ x|.bk x|.fL _ x|.nilCheck x|.unary _ x|.jM _ x|.sy _ x|.nf x|.wT x|.sA _ x|.jx _ x|.part _ _ _ x|.oK x|.qQ x|.ln x|.jy x|.pJ x
 |.typeAssert _ _ _ x|.extract x _|.nj x|.kn x|.sD x|.cap x|.ur _ x|.ut x=>x.bV
 |.pick c a b=>c.bV++(a.bV++b.bV)
 |.alloc .. |.je|.lq|.uq _=>[]
 |.build _ d|.buildSlice _ _ _ d=>d.flatMap λp=>p.2.2.bV
 |.store _ a x=>a.bV++x.bV
 |.arith _ _ x y|.shift _ x y|.km _ x y|.eq _ _ x y|.sC _ _ x y|.dO _ x y|.wU _ _ _ x y|.mw x y|.lookup _ _ _ x y|.mapEntry _ _ x y|.append _ _ _ _ _ x y|.copy _ x y|.delete _ x y|.ng _ _ _ _ x y=>x.bV++y.bV
 |.mu _ a b=>a.flatMap aK.bV++b.flatMap aK.bV
 |.uo _ _ x a b c|.gp _ _ x a b c=>x.bV++(uJ a++(uJ b++uJ c))
 |.sB x a b=>x.bV++(uJ a++uJ b)
 |.iV _ m k v=>m.bV++(k.bV++v.bV)
 |.entryStore m s v=>m.bV++(s.bV++v.bV)
 |.nk _ l=>l.flatMap aK.bV
 |.fill m ks=>m.bV++ks.flatMap λp=>p.2.bV
 |.call f l=>f.bV++l.flatMap aK.bV
def bu.gY(x:bu):List af:=(match x.guard with|some (g,_)=>[g]|none=>[])++x.op.bV
def uK:Op->Bool
 |.call c=>match c.callee with
  |.value _=>true
  |_=>false
 |_=>false
def bC.uL:bC->Bool
 |.call .. =>true
 |_=>false
def Gm(o:Oper):Option (Option af):=
 match o.dst with
 |some d=>if d<nt then some (some (af.cq d))else none
 |none=>some none
def Gn(aq:Array Oper)(o:Oper):Option (Option (af×Bool)):=
 match o.guard with
 |none=>some none
 |some (j,a)=>match(aq[j]?).bind (·.dst)with
  |some d=>if d<nt then some (some (af.cq d,a))else none
  |none=>none
def nG(aq:Array Oper)(o:Oper):Option bu:=
 let nH:=(bG P nt o).getD .lq
 let op:=if nH.uL&&!uK o.op then .lq else nH
 match Gm nt o,Gn nt aq o with
 |some dst,some guard=>some {dst,op,guard,gu:=[],re:=[]}
 |_,_=>none
def order(l:List bu)(cC:Array Nat):(fuel:Nat)->(done:Nat)->List Nat->List Nat
 |0,_,a=>a.reverse
 |f+1,done,a=>
  let lw(i:Nat):Bool:=!done.testBit i&&((cC.getD i 0)&&&done==cC.getD i 0)
  let fO(i:Nat):Bool:=match l[i]? with|some o=>o.op.fO|none=>true
  let b:=(afD l.length).filter lw
  match(b.find? λi=>!fO i)<|>b.head? with
  |some i=>order l cC f (done|||2^i) (i::a)
  |none=>a.reverse
structure Lt where
 u:Nat
 d:cY
 k:AV
 v:aK
structure iX where
 i0:Nat
 t0:af
 us:List Lt
def xi(t0:af)(u:Nat)(x:bu):Option Lt:=
 match x with
 |⟨none,.iV d (.t a) (.c k) v,none,_,_⟩=>if a=t0/\lr d=true then some ⟨u,d,k,v⟩else none
 |_=>none
def CE(i:Nat)(x:bu):Option (Nat×af):=
 match x with
 |⟨some t,.je,none,_,_⟩=>some (i,t)
 |_=>none
def CF(l:List bu):Option iX:=
 (l.zipIdx.findSome? λp=>CE p.2 p.1).map λq=>⟨q.1,q.2,l.zipIdx.filterMap λp=>xi q.2 p.2 p.1⟩
def iX.ok(l:List bu)(cC:Array Nat)(aB:List Nat)(T:iX):Bool:=
 aB.contains T.i0&&(match l[T.i0]? with|some x=>(CE T.i0 x).any (λq=>q.2==T.t0)|none=>false)&&
 T.us.all λa=>!aB.contains a.u&&
  aB.all (λk=>match l[k]? with
   |some x=>(match x.dst with
    |some e=>!(T.t0::a.v.bV).contains e||(cC.getD a.u 0).testBit k
    |none=>true)
   |none=>false)&&
  T.us.all λw=>w.u==a.u||(match cQ 64 a.d a.k w.k with|some b=>!b|none=>false)
def kw:Option iX->Option Nat
 |some T=>some T.i0
 |none=>none
def oQ:Option iX->List bu
 |some T=>[⟨none,.fill (.t T.t0) (T.us.map λu=>(u.k,u.v)),none,[],[]⟩]
 |none=>[]
def xj(l:List bu)(cC:Array Nat)(a:Option Nat)(seen:List Nat)(i:Nat):List af:=
 seen.filterMap λj=>match l[j]? with
  |some r=>if r.op.jC&&(!(cC.getD i 0).testBit j||a==some j)then r.dst else none
  |none=>none
def gX(l:List bu)(cC:Array Nat)(seen:List Nat)(i:Nat):List fU:=
 seen.filterMap λj=>match l[j]? with
  |some r=>if r.op.gX&&!(cC.getD i 0).testBit j then r.dst.map λd=>⟨d,r.op,r.guard⟩else none
  |none=>none
def CG(l:List bu)(cC:Array Nat)(a:Option Nat)(seen:List Nat)(i:Nat)(o:bu):bu:=
 {o with gu:=if o.op.fO||o.op.gX then xj l cC a seen i else[],re:=if o.op.fO then gX l cC seen i else[]}
def lV(l:List bu)(cC:Array Nat)(b:Option Nat)(seen:List Nat):List Nat->List bu
 |[]=>[]
 |i::a=>
  match l[i]? with
  |some o=>CG l cC b seen i o::lV l cC b (i::seen) a
  |none=>[]
def pP(l:List bu)(cC:Array Nat)(i j:Nat):Bool:=
 match l[i]?,l[j]? with
 |some x,some y=>
  let a:=(cC.getD j 0).testBit i
  i !=j&&!(cC.getD i 0).testBit j&&
  (match x.dst with
   |some d=>(match y.dst with|some e=>d !=e|none=>true)&&(a||!y.gY.contains d)
   |none=>true)&&
  (match y.dst with
   |some d=>!x.gY.contains d||(a&&!x.op.gX)
   |none=>true)&&
  (!x.op.fO||(a&&(cC.getD i 0&&&cC.getD j 0)==cC.getD i 0))
 |_,_=>false
def pQ(x:bu):Bool:=
 x.op.fO||x.op.plain||(match x.dst with
  |some d=>x.op.jC||(x.op.gX&&!x.gY.contains d)
  |none=>false)
def sL(l:List bu)(cC:Array Nat):List Nat->Bool
 |[]=>true
 |i::a=>(match l[i]? with|some x=>pQ x|none=>false)&&a.all (pP l cC i)&&sL l cC a
def uM(aq:Array Oper):Bool:=aq.toList.zipIdx.all λp=>p.1.after.all λe=>!Region.binds .any e||decide (e.on<p.2)
def sK(aq:Array Oper)(a:Bool):Option (List bu):=do
 let l<-aq.toList.mapM (nG P nt aq)
 if !a then return l
 let cC:=Region.before aq
 let aB:=order l cC aq.size 0 []
 if(P.follows .mixedOrders||!Region.departs aq)&&uM aq&&(afD aq.size).all aB.contains&&sL l cC aB then return lV l cC none [] aB else
 let T<-CF l
 let aB:=order l cC aq.size (T.us.foldl (λm b=>m|||2^b.u) 0) []
 if(P.follows .mixedOrders||!Region.departs aq)&&uM aq&&(afD aq.size).all (λi=>aB.contains i||T.us.any (·.u==i))&&sL l cC aB&&T.ok l cC aB then return lV l cC (some T.i0) [] aB++oQ (some T)else none
class Ov where
 eF:bg->Option Nat
 code:Nat->bg
 NE:∀b t,eF b=some t->b=code t
variable[Ov]
def dA:Code->Option bg
 |.skip|.label _=>some .skip
 |.region _ aq d=>(sK P nt aq d).map .region
 |.seq a b=>match dA a,dA b with
  |some a,some b=>some (match Ov.eF (.seq a b)with
   |some t=>.eF t
   |none=>.seq a b)
  |_,_=>none
 |.cond c a b=>match eB P nt c,dA a,dA b with
  |some c,some a,some b=>some (.cond c a b)
  |_,_,_=>none
 |.block id b=>(dA b).map (.block id)
 |.loop b=>(dA b).map .loop
 |.rangeFunc f g as e=>match eB P nt f,dA as,dA e with
  |some f,some as,some e=>if g.toList.all (·<nt)then some (.rangeFunc f (g.toList.map af.cq) as e)else none
  |_,_,_=>none
 |.exit id=>some (.exit id)
 |.ret=>some .ret
 |.scope b=>dA b
 |.goto _|.refuse _=>none
def uN:ResultVar->Option fM
 |.tmp t=>if t<nt then some (.tmp (af.cq t))else none
 |.cell a t=>match lu P t,dV P t with
  |some g,some s=>if a<nt then some (.cell (af.cq a) g (if g then s else 1))else none
  |_,_=>none
def oS(f:Func):Option aX:=do
 let b<-f.body
 let b<-dA P f.ntmps b
 let r<-f.results.toList.mapM (uN P f.ntmps)
 return .code f.ntmps r b
end
end Go.ak
namespace Go.ak
structure aQ where
 f:af->Option (Nat×Nat)
 k:Nat->Nat×Nat
instance:CoeFun aQ λ_=>af->Option (Nat×Nat):=⟨aQ.f⟩
def bR(c a:aQ):Prop:=∀i x,c i=some x->a i=some x/\a.k x.1=c.k x.1
theorem bR.refl(a:aQ):bR a a:=λ_ _ h=>⟨h,rfl⟩
theorem bR.trans{a f c:aQ}(h:bR a f)(k:bR f c):bR a c:=λi x e=>⟨(k i x (h i x e).1).1,(k i x (h i x e).1).2.trans (h i x e).2⟩
mutual
def VR(e:aQ):AV->Value->Prop
 |.tuple l,.tuple cs=>aR e l cs.toList
 |.agg l,.agg cs=>aR e l cs.toList
 |.bool a,.bool j=>a=j
 |.int k n,.int h m=>k=kc h/\n=m
 |.str s,.string t=>t.data.toList.map af5=s
 |.aD i o,.pointer (some a)=>∃j x,e i=some (j,x)/\a=⟨j,x+o,none⟩
 |.j5,.pointer none=>True
 |.slice i o len cap ex,.slice (some a) n c=>n=len/\len<=cap/\cap<=c/\(ex=true->c=cap)/\∃j x,e i=some (j,x)/\(c≠0->a=⟨j,x+o,none⟩)/\(ex=false->x+o+c*(e.k j).2<=(e.k j).1)
 |.aG,.slice none 0 0=>True
 |.map i,.map (some j)=>e i=some (j,0)
 |.d9,.map none=>True
 |.func f a j,.func (.func g) c d=>f=g/\aR e a c.toList/\aR e j d.toList
 |.yield i,.func (.yield j) c d=>e i=some (j,0)/\c= #[]/\d= #[]
 |.nilFunc,.nilFunc=>True
 |.iface t v,.iface u c=>t=u/\VR e v c
 |.nilIface,.nilIface=>True
 |.ct,_=>True
 |_,_=>False
def aR(a:aQ):List AV->List Value->Prop
 |[],[]=>True
 |v::l,c::m=>VR a v c/\aR a l m
 |_,_=>False
end
mutual
theorem VR.mono{m j:aQ}(h:bR m j):∀(v:AV)(c:Value),VR m v c->VR j v c
 |.tuple l,.tuple cs,s=>by simp only[VR]at s⊢;exact aR.mono h l cs.toList s
 |.agg l,.agg cs,s=>by simp only[VR]at s⊢;exact aR.mono h l cs.toList s
 |.bool _,.bool _,s=>by simpa only[VR]using s
 |.int _ _,.int _ _,s=>by simpa only[VR]using s
 |.str _,.string _,s=>by simpa only[VR]using s
 |.aD i o,.pointer (some a),s=>by
  simp only[VR]at s⊢;obtain⟨w,x,e,rfl⟩:=s;exact⟨w,x,(h _ _ e).1,rfl⟩
 |.j5,.pointer none,_=>by simp only[VR]
 |.slice i o len cap ex,.slice (some a) n c,s=>by
  simp only[VR]at s⊢;obtain⟨h1,h2,h3,p,w,x,e,q,r⟩:=s;exact⟨h1,h2,h3,p,w,x,(h _ _ e).1,q,by rw[show j.k w=m.k w from(h _ _ e).2];exact r⟩
 |.aG,.slice none 0 0,_=>by simp only[VR]
 |.map i,.map (some w),s=>by simp only[VR]at s⊢;exact(h _ _ s).1
 |.d9,.map none,_=>by simp only[VR]
 |.func f a w,.func (.func g) c d,s=>by
  simp only[VR]at s⊢;exact⟨s.1,aR.mono h a c.toList s.2.1,aR.mono h w d.toList s.2.2⟩
 |.yield i,.func (.yield w) c d,s=>by simp only[VR]at s⊢;exact⟨(h _ _ s.1).1,s.2⟩
 |.nilFunc,.nilFunc,_=>by simp only[VR]
 |.iface t v,.iface u c,s=>by simp only[VR]at s⊢;exact⟨s.1,VR.mono h v c s.2⟩
 |.nilIface,.nilIface,_=>by simp only[VR]
 |.ct,_,_=>by simp only[VR]
theorem aR.mono{e a:aQ}(h:bR e a):∀(l:List AV)(m:List Value),aR e l m->aR a l m
 |[],[],_=>by simp only[aR]
 |v::l,c::m,k=>by simp only[aR]at k⊢;exact⟨VR.mono h v c k.1,aR.mono h l m k.2⟩
end
theorem aR.length{a:aQ}:∀{l:List AV}{m:List Value},aR a l m->l.length=m.length|[],[],_=>rfl|_::_,_::_,k=>by simp only[aR]at k;simp[aR.length k.2]|[],_::_,k=>by simp[aR]at k|_::_,[],k=>by simp[aR]at k
theorem aR.append{a:aQ}:∀{l:List AV}{m:List Value}{e:List AV}{f:List Value},aR a l m->aR a e f->aR a (l++e) (m++f)|[],[],_,_,_,c=>by simpa using c|_::_,_::_,_,_,k,c=>by simp only[aR,afk]at k⊢;exact⟨k.1,aR.append k.2 c⟩|[],_::_,_,_,k,_=>by simp[aR]at k|_::_,[],_,_,k,_=>by simp[aR]at k
theorem aR.get{e:aQ}:∀{l:List AV}{m:List Value},aR e l m->∀(i:Nat)(v:AV),l[i]?=some v->∃c,m[i]?=some c/\VR e v c|[],[],_,i,v,h=>by simp at h|a::l,c::m,k,0,v,h=>by simp only[aR]at k;simp at h;subst h;exact⟨c,aC,k.1⟩|a::l,c::m,k,i+1,v,h=>by simp only[aR]at k;simp at h;simpa using aR.get k.2 i v h|[],_::_,k,_,_,_=>by simp[aR]at k|_::_,[],k,_,_,_=>by simp[aR]at k
theorem aR.CH{e:aQ}:∀{l:List AV}{m:List Value},l.length=m.length->(∀(i:Nat)(v:AV)(c:Value),l[i]?=some v->m[i]?=some c->VR e v c)->aR e l m|[],[],_,_=>by simp[aR]|a::l,c::m,h,k=>by simp only[aR];exact⟨k 0 a c aC aC,aR.CH (by simpa using h) λi v c h1 h2=>k (i+1) v c (by simpa using h1) (by simpa using h2)⟩|[],_::_,h,_=>by simp at h|_::_,[],h,_=>by simp at h
theorem aR.take{a:aQ}:∀{l:List AV}{m:List Value}(n:Nat),aR a l m->aR a (l.take n) (m.take n)|[],[],n,_=>by simp[aR]|_::_,_::_,0,_=>by simp[aR]|_::_,_::_,n+1,k=>by simp only[aR,afJ]at k⊢;exact⟨k.1,aR.take n k.2⟩|[],_::_,_,k=>by simp[aR]at k|_::_,[],_,k=>by simp[aR]at k
theorem aR.drop{a:aQ}:∀{l:List AV}{m:List Value}(n:Nat),aR a l m->aR a (l.drop n) (m.drop n)|[],[],n,_=>by simp[aR]|_::_,_::_,0,k=>by simpa using k|_::_,_::_,n+1,k=>by simp only[aR,agc]at k⊢;exact aR.drop n k.2|[],_::_,_,k=>by simp[aR]at k|_::_,[],_,k=>by simp[aR]at k
theorem VR.cells{a:aQ}{v:AV}{c:Value}(h:VR a v c)(hd:v.bq=true):aR a v.cells c.cells.toList:=by cases v<;>cases c<;>first|(simp[VR]at h;done)|(simp[AV.bq]at hd;done)|(simp only[AV.cells,Value.cells,aR,VR]at h⊢;first|exact h|exact⟨h,trivial⟩)
theorem VR.db{a:aQ}{v:AV}{c:Value}(h:VR a v c)(k:v.db=true):(∀l,c≠.agg l)/\∀l,c≠.tuple l:=by cases v<;>cases c<;>simp_all[VR,AV.db]
namespace am
variable{b:Type}(d:b)
theorem aJ(x:b):∀(p q:af)(t:am b),(t.set d q x).get d p=if p=q then x else t.get d p|.xH,.xH,t=>by simp[set,get,val]|.xH,.xO q,t=>by cases t<;>simp[set,get,val]|.xH,.xI q,t=>by cases t<;>simp[set,get,val]|.xO p,.xH,t=>by cases t<;>simp[set,get,left]|.xI p,.xH,t=>by cases t<;>simp[set,get,right]|.xO p,.xO q,t=>by simp[set,get,left,aJ x p q]|.xI p,.xI q,t=>by simp[set,get,right,aJ x p q]|.xO p,.xI q,t=>by cases t<;>simp[set,get,left]|.xI p,.xO q,t=>by cases t<;>simp[set,get,right]
theorem Gp(n:Nat):(am.aF:am b).bN d n=d:=by cases n<;>rfl
theorem Gq(t:am b):t.bN d 0=t.val d:=by cases t<;>rfl
theorem xk(t:am b)(m:Nat)(h:m % 2=0):t.bN d (m+1)=t.left.bN d (m/2):=by cases t with|aF=>simp[bN,left,Gp]|node l v r=>simp[bN,left,h]
theorem xl(t:am b)(m:Nat)(h:¬m % 2=0):t.bN d (m+1)=t.right.bN d (m/2):=by cases t with|aF=>simp[bN,right,Gp]|node l v r=>simp[bN,right,h]
theorem CI(x:b):∀(f n:Nat)(t:am b)(j:Nat),n<=f->(t.kN d f n x).bN d j=if j=n then x else t.bN d j
 |f,0,t,j,_=>by
  rw[show t.kN d f 0 x=.node t.left x t.right by cases f<;>rfl];cases j with
  |zero=>simp[bN]
  |succ m=>
   simp only[bN,Nat.succ_ne_zero,bA];split;·rename_i h;rw[xk d t m h]
   rename_i h;rw[xl d t m h]
 |0,n+1,_,_,h=>by omega
 |f+1,n+1,t,j,h=>by
  by_cases c:n % 2=0
  .rw[show t.kN d (f+1) (n+1) x=.node (kN d f (n/2) x t.left) (t.val d) t.right by simp[kN,c]];cases j with
   |zero=>simp[bN,Gq]
   |succ m=>
    by_cases a:m % 2=0
    .rw[xk d _ m a,left,CI x f (n/2) t.left (m/2) ab,xk d t m a];by_cases e:m=n;·simp[e]
     rw[ap ab,ap ab]
    rw[xl d _ m a,right,xl d t m a,ap ab]
  rw[show t.kN d (f+1) (n+1) x=.node t.left (t.val d) (kN d f (n/2) x t.right)by simp[kN,c]];cases j with
  |zero=>simp[bN,Gq]
  |succ m=>
   by_cases a:m % 2=0;·rw[xk d _ m a,left,xk d t m a,ap ab]
   rw[xl d _ m a,right,CI x f (n/2) t.right (m/2) ab,xl d t m a];by_cases e:m=n;·simp[e]
   rw[ap ab,ap ab]
end am
def af.az:af->Nat
 |.xH=>1
 |.xO p=>2*p.az
 |.xI p=>2*p.az+1
theorem af.oT:∀p:af,0<p.az|.xH=>by simp[az]|.xO p=>by have:=p.oT;simp only[az];omega|.xI p=>by have:=p.oT;simp only[az];omega
theorem af.qW:∀{p q:af},p.az=q.az->p=q|.xH,.xH,_=>rfl|.xH,.xO q,h=>by have:=q.oT;simp only[az]at h;omega|.xH,.xI q,h=>by have:=q.oT;simp only[az]at h;omega|.xO p,.xH,h=>by have:=p.oT;simp only[az]at h;omega|.xI p,.xH,h=>by have:=p.oT;simp only[az]at h;omega|.xO p,.xO q,h=>by simp only[az]at h;rw[af.qW (p:=p) (q:=q) ab]|.xI p,.xI q,h=>by simp only[az]at h;rw[af.qW (p:=p) (q:=q) ab]|.xO p,.xI q,h=>by simp only[az]at h;omega|.xI p,.xO q,h=>by simp only[az]at h;omega
theorem af.fH:∀p:af,p.succ.az=p.az+1|.xH=>rfl|.xO p=>rfl|.xI p=>by simp only[succ,az,af.fH p];omega
theorem af.jD:∀t,(af.cq t).az=t+1|0=>rfl|t+1=>by rw[cq,fH,jD t]
theorem af.br{a c:Nat}(h:af.cq a=af.cq c):a=c:=by have:=congrArg af.az h;simpa[jD]using this
theorem af.fo:∀{p q:af},af.beq p q=true↔p=q|.xH,.xH=>by simp[beq]|.xH,.xO q=>by simp[beq]|.xH,.xI q=>by simp[beq]|.xO p,.xH=>by simp[beq]|.xI p,.xH=>by simp[beq]|.xO p,.xO q=>by simp[beq,af.fo (p:=p) (q:=q)]|.xI p,.xI q=>by simp[beq,af.fo (p:=p) (q:=q)]|.xO p,.xI q=>by simp[beq]|.xI p,.xO q=>by simp[beq]
def fW(c:aQ)(a:Nat)(aa:am AV)(tmps:Array Value):Prop:=
 tmps.size=a/\∀t,t<a->VR c (aa.get .agx (af.cq t)) (tmps.getD t undef)
theorem fW.mono{c a:aQ}{nt:Nat}{aa:am AV}{tmps:Array Value}(h:bR c a)(k:fW c nt aa tmps):fW a nt aa tmps:=⟨k.1,λt e=>VR.mono h _ _ (k.2 t e)⟩
theorem fW.set{a:aQ}{g:Nat}{aa:am AV}{tmps:Array Value}{v:AV}{c:Value}{d:Nat}(k:fW a g aa tmps)(i:VR a v c):fW a g (aa.set .agx (af.cq d) v) (tmps.setIfInBounds d c):=by
 refine⟨by simp[k.1],λt f=>?_⟩;rw[am.aJ];by_cases e:t=d
 .subst e;have:t<tmps.size:=by rw[k.1];exact f
  simpa[Array.getD,this]using i
 have j:af.cq t≠af.cq d:=λh=>e (af.br h);rw[ap j];have:=k.2 t f;have hs:t<tmps.size:=by rw[k.1];exact f
 have h2:(tmps.setIfInBounds d c).getD t undef=tmps.getD t undef:=by simp[Array.getD,hs,Ne.symm e]
 rw[h2];exact this
theorem VR.agx(a:aQ):VR a AV.agx Go.undef:=by simp[VR,AV.agx,Go.undef,aR]
end Go.ak
namespace Go.ak
section
variable[Ov]
section
def bO.aM:bO->List af
 |.cells _ _ _ _ aM _=>aM
 |_=>[]
def bO.jE:bO->Bool
 |.cells _ _ _ rw _ _=>!rw
 |_=>false
def bf(a:aQ):List aV->List MapEntry->Prop
 |[],[]=>True
 |e::l,c::m=>VR a e.key c.key/\VR a e.val c.val/\e.born=c.born/\bf a l m
 |_,_=>False
def co(a:aQ):List aV->List MapEntry->Prop
 |[],[]=>True
 |e::l,c::m=>VR a e.key c.key/\VR a e.val c.val/\co a l m
 |_,_=>False
def mA:oM->LoopState->Prop
 |.ready,.ready|.busy,.busy|.done,.done|.exhausted,.exhausted=>True
 |_,_=>False
def mB:bU->Option Code->Prop
 |.none,none=>True
 |.exit i,some (.exit j)=>i=j
 |.ret,some .ret=>True
 |_,_=>False
def kS(a:aQ):Option af->Option Nat->Prop
 |none,none=>True
 |some i,some b=>a i=some (b,0)
 |_,_=>False
def bO.len:bO->Nat
 |.cells _ n _ _ _ _=>n
 |_=>0
variable(P:Program)
def gZ(bi:Array MapEntry)(k:Nat):Prop:=(bi.toList.map (·.born)).Nodup/\∀c∈bi.toList,c.born<k
def OR(g:aQ):bO->Nat->Obj->Prop
 |.cells c n e rw _ fz,off,.cells cs u fr=>u=e/\off+n<=cs.size/\(∀i,i<n->∃x,cs[off+i]?=some x/\VR g (c.bN .agx i) x)/\
   (rw=true->∀i,off+fz<=i->i<cs.size->¬(fr.1<=i/\i<fr.2))
 |.map es a,off,.map bi k=>off=0/\k=a/\gZ bi k/\bf g es bi.toList
 |.dt es,off,.map bi k=>off=0/\gZ bi k/\∃l:List MapEntry,l.Perm bi.toList/\co g es l
 |.jN s j h,off,.stringIter bs p=>off=0/\p=h/\bs.data.toList.map af5=s/\j=s.drop h
 |.loop st bP _ aa v as w d,off,.loop r=>off=0/\mA st r.state/\mB bP r.pending/\g d=some (r.defers,0)/\
   r.params.toList.map af.cq=v/\∃q,fW g q aa r.tmps/\(∀p∈r.params.toList,p<q)/\dA P q r.assign=some as/\dA P q r.body=some w
 |.deferred b,off,.deferred cs=>off=0/\(b=false->cs=some [])
 |.mapIter m f seen o,off,.mapIter y s z t=>off=0/\kS g m y/\s=f/\z.toList=seen/\t=o
 |_,_,_=>False
theorem bf.mono{b a:aQ}(h:bR b a):∀{l:List aV}{m:List MapEntry},bf b l m->bf a l m|[],[],_=>by simp[bf]|_::_,_::_,k=>by simp only[bf]at k⊢;exact⟨VR.mono h _ _ k.1,VR.mono h _ _ k.2.1,k.2.2.1,bf.mono h k.2.2.2⟩|[],_::_,k=>by simp[bf]at k|_::_,[],k=>by simp[bf]at k
theorem gZ.empty:gZ #[] 0:=⟨aC,λc h=>by simp at h⟩
theorem gZ.modify{bi:Array MapEntry}{k:Nat}(h:gZ bi k)(i:Nat){f:MapEntry->MapEntry}(g:∀e,(f e).born=e.born):gZ (bi.modify i f) k:=by
 have:∀(l:List MapEntry)(i:Nat),(l.modify i f).map (·.born)=l.map (·.born):=by intro l;induction l with|nil=>intro i;cases i<;>rfl|cons a l j=>intro i;cases i with|zero=>simp[g]|succ i=>simp[j]
 refine⟨by rw[Array.toList_modify,this];exact h.1,λc m=>?_⟩;have b:c.born∈(bi.toList.modify i f).map (·.born):=aeX (by rw[<-Array.toList_modify];exact m);rw[this,aeK]at b;obtain⟨d,hd,e⟩:=b;rw[<-e];exact h.2 d hd
theorem gZ.push{bi:Array MapEntry}{k:Nat}(h:gZ bi k){e:MapEntry}(he:e.born=k):gZ (bi.push e) (k+1):=by
 refine⟨?_,λc f=>?_⟩;·rw[Array.toList_push,aeZ,afa];refine⟨h.1,aC,λa g b hb=>?_⟩;simp only[aez,afC,aaN]at hb;rw[aeK]at g;obtain⟨d,hd,rfl⟩:=g;have:=h.2 d hd;omega
 rw[Array.toList_push,aeu]at f;rcases f with f|f;·have:=h.2 c f;omega
 simp only[aaN]at f;subst f;omega
theorem gZ.erase{bi:Array MapEntry}{k:Nat}(h:gZ bi k)(i:Nat):gZ (bi.eraseIdxIfInBounds i) k:=by
 refine⟨?_,λc a=>?_⟩;·rw[Array.toList_eraseIdxIfInBounds];exact h.1.sublist ((List.eraseIdx_sublist _ _).map _)
 rw[Array.toList_eraseIdxIfInBounds]at a;exact h.2 c ((List.eraseIdx_sublist _ _).subset a)
theorem gZ.clear{k:Nat}:gZ #[] k:=⟨aC,λc h=>by simp at h⟩
theorem co.mono{b a:aQ}(h:bR b a):∀{l:List aV}{m:List MapEntry},co b l m->co a l m|[],[],_=>by simp[co]|_::_,_::_,k=>by simp only[co]at k⊢;exact⟨VR.mono h _ _ k.1,VR.mono h _ _ k.2.1,co.mono h k.2.2⟩|[],_::_,k=>by simp[co]at k|_::_,[],k=>by simp[co]at k
variable{P}
theorem OR.mono{d a:aQ}(h:bR d a){o:bO}{off:Nat}{b:Obj}(k:OR P d o off b):OR P a o off b:=by
 cases o<;>cases b<;>simp only[OR]at k⊢;·obtain⟨h1,h2,h3,c⟩:=k;exact⟨h1,h2,λi hi=>by obtain⟨x,e,f⟩:=h3 i hi;exact⟨x,e,VR.mono h _ _ f⟩,c⟩
 .exact⟨k.1,k.2.1,k.2.2.1,bf.mono h k.2.2.2⟩
 .exact⟨k.1,k.2.1,by obtain⟨l,h1,h2⟩:=k.2.2;exact⟨l,h1,co.mono h h2⟩⟩
 .exact k
 .obtain⟨h1,h2,h3,c,g,nt,j,n⟩:=k;exact⟨h1,h2,h3,(h _ _ c).1,g,nt,fW.mono h j,n⟩
 .exact k
 refine⟨k.1,?_,k.2.2⟩;have:=k.2.1;rename_i m _ _ _ p _ _ _;cases m<;>cases p<;>simp only[kS]at this⊢;exact(h _ _ this).1
structure bS where
 w:Nat->Prop
 r:Nat->Prop
 un:af->Prop
 di:af->Prop
structure cW(Wr:bS)(w w':World):Prop where
 os:w'.os=w.os
 tape:w'.tape=w.tape
 output:w'.output=w.output
 size:w.heap.size<=w'.heap.size
 block:∀k,k<w.heap.size->¬Wr.w k->w'.heap[k]?=w.heap[k]?
theorem cW.refl(a:bS)(w:World):cW a w w:=⟨rfl,rfl,rfl,aeq _,λ_ _ _=>rfl⟩
theorem cW.trans{d:bS}{a b c:World}(h:cW d a b)(k:cW d b c):cW d a c:=⟨k.os.trans h.os,k.tape.trans h.tape,k.output.trans h.output,af2 h.size k.size,λi hi e=>(k.block i (ae2 hi h.size) e).trans (h.block i hi e)⟩
theorem cW.drew{b:bS}{w a:World}(h:cW b w a):cW b w {a with drawn:=a.drawn+1}:=⟨h.os,h.tape,h.output,h.size,h.block⟩
variable(P)
def ef(q:Nat×Nat):bO->Obj->Prop
 |.cells _ _ e _ _ _,.cells cs _ _=>q=(cs.size,(dV P e).getD 0)
 |_,_=>True
structure bh(Wr:bS)(ρ:aQ)(H:ai)(w:World):Prop where
 cJ:∀i,H.get i≠.none->∃b x ob,ρ i=some (b,x)/\w.heap[b]?=some ob/\OR P ρ (H.get i) x ob
 iY:∀i j b x y,i≠j->H.get i≠.none->H.get j≠.none->ρ i=some (b,x)->ρ j=some (b,y)->(i∈(H.get j).aM/\x+(H.get i).len<=y+(H.get j).len)\/(j∈(H.get i).aM/\y+(H.get j).len<=x+(H.get i).len)
 aM:∀i j,i∈(H.get j).aM->i.az<H.next.az/\(H.get i≠.none->(H.get i).jE=true)
 wr:∀i b x,H.get i≠.none->(H.get i).jE=false->ρ i=some (b,x)->Wr.w b
 dD:∀i,H.next.az<=i.az->H.get i=.none/\ρ i=none
 new:∀k,w.heap.size<=k->Wr.w k/\Wr.r k
 jP:∀g,g<P.globals.size->ρ (af.cq g)=some (g,0)
 im:∀i b x ob,H.get i≠.none->ρ i=some (b,x)->w.heap[b]?=some ob->ef P (ρ.k b) (H.get i) ob
 dU:∀i b x,ρ i=some (b,x)->b<w.heap.size
 rd:∀i b x,H.get i≠.none->ρ i=some (b,x)->Wr.r b
 un:∀i,Wr.un i->H.get i=.none/\i.az<H.next.az/\∀j,i∉(H.get j).aM
 di:∀i,Wr.di i->Wr.un i/\ρ i=none
variable{P}
theorem bh.drew{a:bS}{b:aQ}{H:ai}{w:World}(h:bh P a b H w):bh P a b H {w with drawn:=w.drawn+1}:=⟨h.cJ,h.iY,h.aM,h.wr,h.dD,h.new,h.jP,h.im,h.dU,h.rd,h.un,h.di⟩
theorem ai.aJ(H:ai)(i j:af)(o:bO):(H.set i o).get j=if j=i then o else H.get j:=am.aJ _ _ _ _ _
theorem ai.cZ(H:ai)(j:af)(o:bO):(H.new o).get j=if j=H.next then o else H.get j:=am.aJ _ _ _ _ _
theorem ai.eI(H:ai)(i:af)(o:bO):(H.set i o).next=H.next:=rfl
theorem ai.sM:∀(l:List af)(H:ai)(j:af),(H.dP l).get j=if j∈l then .none else H.get j|[],H,j=>by simp[ai.dP]|i::l,H,j=>by rw[ai.dP,ai.sM l,ai.aJ];by_cases h:j∈l<;>by_cases e:j=i<;>simp[h,e]
theorem ai.io:∀(l:List af)(H:ai),(H.dP l).next=H.next|[],_=>rfl|i::l,H=>by rw[ai.dP,ai.io l];rfl
def aQ.add(a:aQ)(i:af)(b x:Nat)(q:Nat×Nat):aQ:=⟨λj=>if j=i then some (b,x)else a j,λc=>if c=b then q else a.k c⟩
theorem aQ.dW(a:aQ)(i:af)(b x:Nat)(q:Nat×Nat):a.add i b x q i=some (b,x):=by simp[aQ.add]
theorem aQ.pR(a:aQ)(i:af)(b x:Nat)(q:Nat×Nat):(a.add i b x q).k b=q:=by simp[aQ.add]
theorem aQ.pS{a:aQ}{i:af}(b x:Nat)(q:Nat×Nat)(h:a i=none)(hb:∀j c y,a j=some (c,y)->c=b->a.k b=q):bR a (a.add i b x q):=by
 intro j y e;refine⟨?_,?_⟩
 .show(if j=i then some (b,x)else a j)=some y;split;·rename_i hj;subst hj;rw[h]at e;cases e
  exact e
 show(if y.1=b then q else a.k y.1)=a.k y.1;split;·rename_i d;rw[d];exact(hb j y.1 y.2 e d).symm
 rfl
theorem bh.alloc{A:bS}{p:aQ}{H:ai}{w:World}(h:bh P A p H w){o:bO}{ob:Obj}(q:Nat×Nat)(hq:ef P q o ob)(M:o≠.none)(F:o.aM=[])(B:OR P (p.add H.next w.heap.size 0 q) o 0 ob):bR p (p.add H.next w.heap.size 0 q)/\bh P A (p.add H.next w.heap.size 0 q) (H.new o) {w with heap:=w.heap.push ob}/\cW A w {w with heap:=w.heap.push ob}:=by
 have J:=h.dD H.next (aeq _);have f:bR p (p.add H.next w.heap.size 0 q):=aQ.pS w.heap.size 0 q J.2 (λj c y e N=>by have:=h.dU j c y e;omega);have t:∀i,H.get i≠.none->∃b x ob,p i=some (b,x)/\b<w.heap.size/\w.heap[b]?=some ob/\OR P p (H.get i) x ob:=by
  intro i hi;obtain⟨b,x,ob,e,hb,B⟩:=h.cJ i hi;refine⟨b,x,ob,e,?_,hb,B⟩;rcases afg b w.heap.size with hl|hl;·exact hl
  simp[ae3 hl]at hb
 refine⟨f,⟨?_,?_,?_,?_,?_,?_,?_,?_,?_,?_,?_,?_⟩,⟨rfl,rfl,rfl,aC,?_⟩⟩
 .intro i hi;rw[ai.cZ]at hi⊢;by_cases e:i=H.next;·subst e;rw[aH rfl];exact⟨w.heap.size,0,ob,aQ.dW ..,aC,B⟩
  rw[ap e]at hi⊢;obtain⟨b,x,s,u,hl,hb,D⟩:=t i hi;refine⟨b,x,s,(f _ _ u).1,?_,OR.mono f D⟩;show(w.heap.push ob)[b]?=_;rw[afT,ap ab];exact hb
 .intro i j b x y v hi hj m n;rw[ai.cZ]at hi hj;rw[ai.cZ,ai.cZ];by_cases d:i=H.next;·subst d;have r:j≠H.next:=λh=>v h.symm;rw[ap r]at hj;obtain⟨K,L,_,u,hl,_⟩:=t j hj;rw[aQ.dW]at m;have:=(f _ _ u).1;rw[this]at n;injection m with m;injection n with n;injection m with m _;injection n with n _;omega
  by_cases r:j=H.next;·subst r;rw[ap d]at hi;obtain⟨K,L,_,u,hl,_⟩:=t i hi;rw[aQ.dW]at n;have:=(f _ _ u).1;rw[this]at m;injection m with m;injection n with n;injection m with m _;injection n with n _;omega
  rw[ap d]at hi⊢;rw[ap r]at hj⊢;simp only[aQ.add,ap d,ap r]at m n;exact h.iY i j b x y v hi hj m n
 .intro i j hj;rw[ai.cZ]at hj;by_cases r:j=H.next;·rw[aH r,F]at hj;cases hj
  rw[ap r]at hj;obtain⟨h1,h2⟩:=h.aM i j hj;have d:i≠H.next:=λe=>by subst e;omega
  rw[ai.cZ,ap d];refine⟨?_,h2⟩;show i.az<H.next.succ.az;rw[af.fH];omega
 .intro i b x hi C e;rw[ai.cZ]at hi C;by_cases d:i=H.next;·subst d;rw[aQ.dW]at e;injection e with e;injection e with e _;exact(h.new b ab).1
  rw[ap d]at hi C;simp only[aQ.add,ap d]at e;exact h.wr i b x hi C e
 .intro i hi;have E:H.next.succ.az<=i.az:=hi;rw[af.fH]at E;have z:i≠H.next:=λe=>by subst e;omega
  rw[ai.cZ,ap z];obtain⟨a,b⟩:=h.dD i ab;exact⟨a,by simp[aQ.add,z,b]⟩
 .intro O G;exact h.new O (by simp at G;omega)
 .intro g hg;exact(f _ _ (h.jP g hg)).1
 .intro i b x s hi e hb;rw[ai.cZ]at hi⊢;by_cases d:i=H.next;·subst d;rw[aQ.dW]at e;injection e with e;injection e with e _;subst e;rw[aH rfl,aQ.pR];have l:(w.heap.push ob)[w.heap.size]?=some s:=hb;rw[afT,aH rfl]at l;injection l with l;rw[<-l];exact hq
  rw[ap d]at hi⊢;simp only[aQ.add,ap d]at e;have I:=h.dU i b x e;have l:(w.heap.push ob)[b]?=some s:=hb;rw[afT,ap ab]at l;rw[show(p.add H.next w.heap.size 0 q).k b=p.k b from(f _ _ e).2];exact h.im i b x s hi e l
 .intro i b x e;show b<(w.heap.push ob).size;rw[Array.size_push];by_cases d:i=H.next;·subst d;rw[aQ.dW]at e;injection e with e;injection e with e _;omega
  simp only[aQ.add,ap d]at e;have:=h.dU i b x e;omega
 .intro i b x hi e;rw[ai.cZ]at hi;by_cases d:i=H.next;·subst d;rw[aQ.dW]at e;injection e with e;injection e with e _;exact(h.new b ab).2
  rw[ap d]at hi;simp only[aQ.add,ap d]at e;exact h.rd i b x hi e
 .intro i hi;obtain⟨h1,h2,h3⟩:=h.un i hi;have d:i≠H.next:=λe=>by subst e;omega
  refine⟨by rw[ai.cZ,ap d];exact h1,?_,λj hj=>?_⟩;·show i.az<H.next.succ.az;rw[af.fH];omega
  rw[ai.cZ]at hj;by_cases r:j=H.next;·rw[aH r,F]at hj;cases hj
  rw[ap r]at hj;exact h3 j hj
 .intro i hi;obtain⟨h1,h2⟩:=h.di i hi;have d:i≠H.next:=λe=>by have:=(h.un i h1).2.1;subst e;omega
  exact⟨h1,by simp[aQ.add,d,h2]⟩
 intro O G _;show(w.heap.push ob)[O]?=_;rw[afT,ap ab]
theorem bh.be{d:bS}{c:aQ}{H:ai}{w:World}(h:bh P d c H w){i:af}(hi:H.get i≠.none):∃b x a,c i=some (b,x)/\b<w.heap.size/\w.heap[b]?=some a/\OR P c (H.get i) x a:=by
 obtain⟨b,x,a,e,hb,f⟩:=h.cJ i hi;refine⟨b,x,a,e,?_,hb,f⟩;rcases afg b w.heap.size with hl|hl;·exact hl
 simp[ae3 hl]at hb
theorem bh.zD{a:bS}{b:aQ}{H:ai}{w:World}(h:bh P a b H w){i:af}(hi:H.get i≠.none):i.az<H.next.az:=by
 rcases afg i.az H.next.az with hl|hl;·exact hl
 exact absurd (h.dD i hl).1 hi
theorem bh.nI{G:bS}{C:aQ}{H:ai}{w:World}(h:bh P G C H w){i:af}{b x:Nat}{o':bO}{ob':Obj}(hi:H.get i≠.none)(s:(H.get i).jE=false)(hb:C i=some (b,x))(R:o'.aM=[])(T:OR P C o' x ob')(V:ef P (C.k b) o' ob'){w':World}(u:w'.heap=w.heap.setIfInBounds b ob')(J:w'.os=w.os)(K:w'.tape=w.tape)(L:w'.output=w.output):bh P G C ((H.dP (H.get i).aM).set i o') w'/\cW G w w':=by
 obtain⟨Y,Z,ob,E,hl,W,X⟩:=h.be hi;rw[hb]at E;injection E with E;injection E with m o;subst m;subst o;have d:∀j,((H.dP (H.get i).aM).set i o').get j=if j=i then o' else if j∈(H.get i).aM then .none else H.get j:=by intro j;rw[ai.aJ,ai.sM]
 have a:∀j,j≠i->(if j∈(H.get i).aM then bO.none else H.get j)≠.none->j∉(H.get i).aM/\H.get j≠.none:=by
  intro j _ hj;by_cases n:j∈(H.get i).aM;·rw[aH n]at hj;exact absurd rfl hj
  rw[ap n]at hj;exact⟨n,hj⟩
 have t:∀j y c,j≠i->j∉(H.get i).aM->H.get j≠.none->C j=some (c,y)->c≠b:=by
  intro j y c M N hj g r;subst r;rcases h.iY i j c x y (λe=>M e.symm) hi hj hb g with⟨n,_⟩|⟨n,_⟩;·have:=(h.aM i j n).2 hi;rw[s]at this;cases this
  exact N n
 refine⟨⟨?_,?_,?_,?_,?_,?_,?_,?_,?_,?_,?_,?_⟩,⟨J,K,L,by rw[u];simp,?_⟩⟩
 .intro j hj;rw[d]at hj⊢;by_cases e:j=i;·subst e;rw[aH rfl];exact⟨b,x,ob',hb,by rw[u,aeH];simp[hl],T⟩
  rw[ap e]at hj⊢;obtain⟨n,f⟩:=a j e hj;rw[ap n];obtain⟨c,y,I,S,r,O⟩:=h.cJ j f;have:=t j y c e n f S;exact⟨c,y,I,S,by rw[u,aeH,ap (λh=>this h.symm)];exact r,O⟩
 .intro j ag c y z D hj l g v;rw[d]at hj l;rw[d,d];by_cases m:j=i;·subst m;have o:ag≠j:=λh=>D h.symm;rw[ap o]at l;obtain⟨n,A⟩:=a ag o l;rw[hb]at g;injection g with g;injection g with g _;exact absurd g.symm (t ag z c o n A v)
  by_cases o:ag=i;·subst o;rw[ap m]at hj;obtain⟨n,f⟩:=a j m hj;rw[hb]at v;injection v with v;injection v with v _;exact absurd v.symm (t j y c m n f g)
  rw[ap m]at hj⊢;rw[ap o]at l⊢;obtain⟨q,f⟩:=a j m hj;obtain⟨p,A⟩:=a ag o l;rw[ap q,ap p];exact h.iY j ag c y z D f A g v
 .intro j ag l;rw[d]at l;have B:((H.dP (H.get i).aM).set i o').next=H.next:=by rw[ai.eI,ai.io]
  rw[B];by_cases o:ag=i;·rw[aH o,R]at l;cases l
  rw[ap o]at l;by_cases p:ag∈(H.get i).aM;·rw[aH p]at l;cases l
  rw[ap p]at l;obtain⟨h1,h2⟩:=h.aM j ag l;refine⟨h1,λhj=>?_⟩;rw[d]at hj⊢;by_cases m:j=i;·subst m;have:=h2 hi;rw[s]at this;cases this
  rw[ap m]at hj⊢;obtain⟨q,f⟩:=a j m hj;rw[ap q];exact h2 f
 .intro j c y hj F g;rw[d]at hj F;by_cases m:j=i;·subst m;exact h.wr j c y hi s g
  rw[ap m]at hj F;obtain⟨q,f⟩:=a j m hj;rw[ap q]at F;exact h.wr j c y f F g
 .intro j hj;have f:H.next.az<=j.az:=by rw[ai.eI,ai.io]at hj;exact hj
  obtain⟨h1,h2⟩:=h.dD j f;refine⟨?_,h2⟩;rw[d];by_cases m:j=i;·subst m;exact absurd h1 hi
  rw[ap m];split;·rfl
  exact h1
 .intro ag l;exact h.new ag (by rw[u]at l;simpa using l)
 .exact h.jP
 .intro j c y I hj g r;rw[d]at hj⊢;by_cases e:j=i;·subst e;rw[aH rfl];rw[hb]at g;injection g with g;injection g with g _;subst g;rw[u,aeH]at r;simp only[hl,bc,aas]at r;rw[<-r];exact V
  rw[ap e]at hj⊢;obtain⟨n,f⟩:=a j e hj;rw[ap n];have:=t j y c e n f g;rw[u,aeH,ap (λh=>this h.symm)]at r;exact h.im j c y I f g r
 .intro j c y g;rw[u,Array.size_setIfInBounds];exact h.dU j c y g
 .intro j c y hj g;rw[d]at hj;by_cases e:j=i;·subst e;exact h.rd j c y hi g
  rw[ap e]at hj;exact h.rd j c y (a j e hj).2 g
 .intro j hj;have B:((H.dP (H.get i).aM).set i o').next=H.next:=by rw[ai.eI,ai.io]
  rw[B];obtain⟨h1,h2,h3⟩:=h.un j hj;refine⟨?_,h2,λag l=>?_⟩;·rw[d,ap (λe=>hi (by rw[<-e];exact h1)),h1];split<;>rfl
  rw[d]at l;by_cases o:ag=i;·rw[aH o,R]at l;cases l
  rw[ap o]at l;by_cases p:ag∈(H.get i).aM;·rw[aH p]at l;cases l
  rw[ap p]at l;exact h3 ag l
 .exact h.di
 intro ag l Q;have:ag≠b:=λe=>Q (e▸h.wr i b x hi s hb);rw[u,aeH,ap (λh=>this h.symm)]
theorem bh.uO{a:bS}{b:aQ}{H:ai}{w c:World}(h:bh P a b H w)(e:c.heap=w.heap):bh P a b H c:=⟨by rw[e];exact h.cJ,h.iY,h.aM,h.wr,h.dD,by rw[e];exact h.new,h.jP,by rw[e];exact h.im,by rw[e];exact h.dU,h.rd,h.un,h.di⟩
theorem cW.uO{g:bS}{w a b:World}(h:cW g w a)(e:b.heap=a.heap)(c:b.os=a.os)(d:b.tape=a.tape)(f:b.output=a.output):cW g w b:=⟨c.trans h.os,d.trans h.tape,f.trans h.output,by rw[e];exact h.size,λk h1 h2=>by rw[e];exact h.block k h1 h2⟩
end
section
variable{P:Program}
theorem pT(b o i:Nat):(⟨b,o,none⟩:Addr).add i=⟨b,o+i,none⟩:=by unfold Addr.add;split<;>simp_all
theorem CJ(w:World){b:Nat}{cs:Array Value}{a:TypeId}{fr:Nat×Nat}(h:w.heap[b]?=some (.cells cs a fr))(o:Nat):w.cell? ⟨b,o,none⟩=cs[o]?:=by simp[World.cell?,h]
theorem NF(w:World){b:Nat}{cs:Array Value}{a:TypeId}{fr:Nat×Nat}(h:w.heap[b]?=some (.cells cs a fr))(o:Nat):w.frozen? ⟨b,o,none⟩=(decide (fr.1<=o)&&decide (o<fr.2)):=by simp[World.frozen?,h]
theorem NG(w:World){b o:Nat}{v:Value}(h:w.cell? ⟨b,o,none⟩=some v):(load ⟨b,o,none⟩).run P w=.ok v w:=by simp[h]
theorem xm(w:World){b:Nat}{cs:Array Value}{c:TypeId}{fr:Nat×Nat}(h:w.heap[b]?=some (.cells cs c fr))(o m:Nat)(d:o+m<=cs.size):(loadCells ⟨b,o,none⟩ m).run P w=.ok ((cs.toList.drop o).take m).toArray w:=by
 have hl:((cs.toList.drop o).take m).length=m:=by simp;omega
 have:=run_loadCells_list (P:=P) w ⟨b,o,none⟩ ((cs.toList.drop o).take m) (λj v a=>by
  rw[pT,CJ w h];rw[List.getElem?_take]at a;split at a;·rw[List.getElem?_drop]at a;simpa using a
  cases a);rw[hl]at this;exact this
def wr(cs:Array Value):Nat->List Value->Array Value
 |_,[]=>cs
 |o,v::l=>wr (cs.setIfInBounds o v) (o+1) l
theorem pU:∀(l:List Value)(cs:Array Value)(o:Nat),(wr cs o l).size=cs.size|[],_,_=>rfl|v::l,cs,o=>by rw[wr,pU l];simp
theorem xn:∀(l:List Value)(cs:Array Value)(o j:Nat),o+l.length<=cs.size->(wr cs o l)[j]?=if o<=j/\j<o+l.length then l[j - o]? else cs[j]?
 |[],cs,o,j,_=>by rw[wr,ap (by simp only[List.length_nil];omega)]
 |v::l,cs,o,j,h=>by
  simp only[aeJ]at h;rw[wr,xn l _ _ _ (by simp;omega)];simp only[aeJ];by_cases h1:o+1<=j/\j<o+1+l.length;·rw[aH h1,aH ab];rw[show j - o=(j - (o+1))+1 by omega];simp
  rw[ap h1];by_cases h2:j=o;·subst h2;rw[aH ab];rw[aeH];simp;omega
  rw[ap ab,aeH,ap (λe=>h2 e.symm)]
theorem NH(w:World){b:Nat}{cs:Array Value}{a:TypeId}{fr:Nat×Nat}(h:w.heap[b]?=some (.cells cs a fr))(o:Nat)(v:Value):(w.setCell ⟨b,o,none⟩ v).heap=w.heap.setIfInBounds b (.cells (cs.setIfInBounds o v) a fr):=by
 have hl:b<w.heap.size:=by
  rcases afg b w.heap.size with hl|hl;·exact hl
  simp[ae3 hl]at h
 unfold World.setCell;apply agf;intro i;simp only[Array.getElem?_modify,aeH];by_cases e:b=i;·subst e;rw[aH rfl,aH rfl,h];simp[hl]
 rw[ap e,ap e]
theorem CM(b:Nat)(a:TypeId)(fr:Nat×Nat):∀(l:List Value)(w:World)(cs:Array Value)(o:Nat),w.heap[b]?=some (.cells cs a fr)->(w.setCells b o l).heap=w.heap.setIfInBounds b (.cells (wr cs o l) a fr)/\(w.setCells b o l).os=w.os/\(w.setCells b o l).tape=w.tape/\(w.setCells b o l).output=w.output
 |[],w,cs,o,h=>by
  refine⟨?_,rfl,rfl,rfl⟩;simp only[World.setCells,wr];apply agf;intro i;rw[aeH];split
  .rename_i e;subst e;rw[h];have:b<w.heap.size:=by
    rcases afg b w.heap.size with hl|hl;·exact hl
    simp[ae3 hl]at h
   simp[this]
  rfl
 |v::l,w,cs,o,h=>by
  have h1:=NH w h o v;have hl:b<w.heap.size:=by
   rcases afg b w.heap.size with hl|hl;·exact hl
   simp[ae3 hl]at h
  have h2:(w.setCell ⟨b,o,none⟩ v).heap[b]?=some (.cells (cs.setIfInBounds o v) a fr):=by rw[h1,aeH];simp[hl]
  obtain⟨c,d,f,g⟩:=CM b a fr l (w.setCell ⟨b,o,none⟩ v) _ (o+1) h2;simp only[World.setCells,wr];refine⟨?_,d,f,g⟩;rw[c,h1];apply agf;intro i;simp only[aeH,Array.size_setIfInBounds];split<;>rfl
theorem Gr(w:World){b:Nat}{cs:Array Value}{a:TypeId}{fr:Nat×Nat}(h:w.heap[b]?=some (.cells cs a fr))(o:Nat)(l:List Value)(d:o+l.length<=cs.size)(c:∀i,o<=i->i<o+l.length->¬(fr.1<=i/\i<fr.2))(h1:∀v∈l,v.oneCell'=true):(storeCells ⟨b,o,none⟩ l).run P w=.ok () (w.setCells b o l):=by have:=run_storeCells_cells (P:=P) b o l 0 w (λj hj=>by rw[CJ w h];simp;omega) (λj hj=>by rw[NF w h];have:=c (o+0+j) ab ab;simp only[Bool.and_eq_false_iff,decide_eq_false_iff_not];omega) h1;simpa using this
theorem nJ:∀(l:List AV)(c:am AV)(o j:Nat),(fi c o l).bN .agx j=if o<=j/\j<o+l.length then l.getD (j - o) .agx else c.bN .agx j
 |[],c,o,j=>by rw[fi,ap (by simp only[List.length_nil];omega)]
 |v::l,c,o,j=>by
  rw[fi,nJ l,am.CI _ _ _ _ _ _ (aeq _)];simp only[aeJ];by_cases h1:o+1<=j/\j<o+1+l.length;·rw[aH h1,aH ab,show j - o=(j - (o+1))+1 by omega];simp
  rw[ap h1];by_cases h2:j=o;·subst h2;rw[aH rfl,aH ab];simp
  rw[ap h2,ap ab]
theorem lW(l:List AV)(j:Nat)(h:j<l.length):(bX l).bN .agx j=l.getD j .agx:=by rw[bX,nJ,aH ab];simp
theorem zE:∀(m:Nat)(c:am AV)(n o:Nat)(l:List AV),eX c n o m=some l->l.length=m/\(0<m->o+m<=n)/\∀j,j<m->l[j]?=some (c.bN .agx (o+j))
 |0,c,n,o,l,h=>by simp only[eX,aas]at h;subst h;simp
 |m+1,c,n,o,l,h=>by
  simp only[eX]at h;split at h
  .rename_i b;split at h
   .rename_i a hl;simp only[aas]at h;subst h;obtain⟨h1,h2,h3⟩:=zE m c n (o+1) a hl;refine⟨by simp[h1],λ_=>by
     rcases af6 m with e|e;·omega
     have:=h2 e;omega,λj hj=>?_⟩;cases j with|zero=>simp|succ j=>simp only[afh];rw[h3 j ab];congr 2;omega
   cases h
  cases h
theorem zF{g:aQ}{c:am AV}{n e:Nat}{f:Bool}{aM:List af}{fz x:Nat}{cs:Array Value}{p:TypeId}{fr:Nat×Nat}(h:OR P g (.cells c n e f aM fz) x (.cells cs p fr)){o m:Nat}{l:List AV}(hl:eX c n o m=some l):aR g l ((cs.toList.drop (x+o)).take m)/\(0<m->x+o+m<=cs.size):=by
 simp only[OR]at h;obtain⟨_,h2,h3,_⟩:=h;obtain⟨j,k,a3⟩:=zE m c n o l hl;have d:0<m->x+o+m<=cs.size:=λq=>by have:=k q;omega
 refine⟨aR.CH ?_ ?_,d⟩
 .rcases af6 m with e|e;·subst e;simp[j]
  have:=d e;simp[j];omega
 intro i v t a b;have hi:i<m:=by
  rcases afg i m with h|h;·exact h
  rw[afH ab]at a;cases a
 rw[a3 i hi]at a;injection a with a;subst a;have:=k ab;obtain⟨y,r,s⟩:=h3 (o+i) ab;rw[List.getElem?_take,aH hi,List.getElem?_drop,afi]at b;rw[show x+o+i=x+(o+i)by omega,r]at b;injection b with b;subst b;exact s
theorem aR.CN{b:aQ}:∀{l:List AV}{m:List Value},aR b l m->cE l=true->∀v∈m,v.oneCell'=true
 |[],[],_,_,_,h=>by cases h
 |a::l,c::m,k,h,v,d=>by
  simp only[aR]at k;simp only[cE,aew]at h;rcases aer.1 d with e|e;·subst e;have:=VR.db k.1 h.1;cases v<;>simp_all[Value.oneCell']
  exact aR.CN k.2 h.2 v e
 |[],_::_,k,_,_,_=>by simp[aR]at k
 |_::_,[],k,_,_,_=>by simp[aR]at k
theorem xp{v:bS}{t:aQ}{H D:ai}{w:World}(h:bh P v t H w){i:af}{o:Nat}{l:List AV}(d:gw H i o l=some D){b x:Nat}(hb:t i=some (b,x)){m:List Value}(z:aR t l m):(storeCells ⟨b,x+o,none⟩ m).run P w=.ok () (w.setCells b (x+o) m)/\bh P v t D (w.setCells b (x+o) m)/\cW v w (w.setCells b (x+o) m):=by
 unfold gw at d;split at d
 .rename_i c n e aM fz hi;split at d
  .rename_i E;simp only[aew,decide_eq_true_eq]at E;obtain⟨⟨S,T⟩,C⟩:=E;injection d with d;subst d;have f:H.get i≠.none:=by rw[hi];simp
   obtain⟨V,W,J,u,hl,g,a⟩:=h.be f;rw[hb]at u;injection u with u;injection u with A B;subst A;subst B;rw[hi]at a;cases J with
   |cells cs F fr=>
    simp only[OR]at a;obtain⟨K,L,M,G⟩:=a;have I:=aR.length z;have s:=Gr (P:=P) w g (x+o) m ab (λj p k=>G trivial j ab ab) (aR.CN z C);obtain⟨A,B,N,O⟩:=CM b F fr m w cs (x+o) g;have:=h.nI (i:=i) (o':=.cells (fi c o l) n e true [] fz) (ob':=.cells (wr cs (x+o) m) F fr) f (by rw[hi];rfl) hb rfl (by
     simp only[OR];refine⟨K,by rw[pU];exact L,λj hj=>?_,λ_ j p k=>G trivial j p (by rw[pU]at k;exact k)⟩;rw[nJ,xn _ _ _ _ ab];by_cases q:o<=j/\j<o+l.length;·rw[aH q,aH ab,show x+j - (x+o)=j - o by omega];have r:j - o<l.length:=ab;obtain⟨y,Q,R⟩:=aR.get z (j - o) l[j - o] (by simp[r]);exact⟨y,Q,by simpa[agt,r]using R⟩
     rw[ap q,ap ab];exact M j hj) (by have:=h.im i b x _ f hb g;rw[hi]at this;simp only[ef]at this⊢;rw[pU];exact this) A B N O;rw[hi]at this;exact⟨s,this.1,this.2⟩
   |_=>simp[OR]at a
  cases d
 cases d
end
section
variable{P:Program}
theorem bh.Gs{Wr:bS}{G:aQ}{H:ai}{dx:World}(h:bh P Wr G H dx){i:af}{c:am AV}{m e:Nat}{aM:List af}{fz:Nat}(hi:H.get i=.cells c m e true aM fz){b x:Nat}(hb:G i=some (b,x)){c2:am AV}{n2 e2 fz2 b2 x2:Nat}{ob2:Obj}(q:Nat×Nat)(hq:ef P q (.cells c2 n2 e2 true (i::aM) fz2) ob2)(a':b2=b->q=G.k b)(hr:OR P (G.add H.next b2 x2 q) (.cells c2 n2 e2 true (i::aM) fz2) x2 ob2){w':World}(ba:w'.os=dx.os)(bb:w'.tape=dx.tape)(bd:w'.output=dx.output)(d:(b2=dx.heap.size/\w'.heap=dx.heap.push ob2)\/(b2=b/\w'.heap=dx.heap.setIfInBounds b ob2/\x+m<=x2+n2/\∃cs O el fr,dx.heap[b]?=some (.cells cs el fr)/\ob2=.cells O el fr/\O.size=cs.size/\∀j,j<x+m->O[j]?=cs[j]?)):bR G (G.add H.next b2 x2 q)/\bh P Wr (G.add H.next b2 x2 q) ((H.set i (.cells c m e false aM fz)).new (.cells c2 n2 e2 true (i::aM) fz2)) w'/\cW Wr dx w':=by
 have D:H.get i≠.none:=by rw[hi];simp
 have a1:(H.get i).jE=false:=by rw[hi];rfl
 have K:(H.get i).aM=aM:=by rw[hi];rfl
 have Q:(H.get i).len=m:=by rw[hi];rfl
 have hf:=h.dD H.next (aeq _);have p:bR G (G.add H.next b2 x2 q):=aQ.pS b2 x2 q hf.2 (λj o y e' u=>by
  rcases d with⟨h1,_⟩|⟨h1,_⟩;·have:=h.dU j o y e';omega
  rw[h1];exact(a' h1).symm);have bv:i≠H.next:=λe=>D (e▸hf.1);obtain⟨ds,x',ob,e',hl,c9,c'⟩:=h.be D;rw[hb]at e';injection e' with e';injection e' with r b0;subst r;subst b0;have a2:Wr.w b:=h.wr i b x D a1 hb;have l:∀j,((H.set i (.cells c m e false aM fz)).new (.cells c2 n2 e2 true (i::aM) fz2)).get j=if j=H.next then .cells c2 n2 e2 true (i::aM) fz2 else if j=i then .cells c m e false aM fz else H.get j:=by intro j;rw[ai.cZ,ai.eI,ai.aJ]
 have n:∀j,j≠H.next->(if j=i then(bO.cells c m e false aM fz)else H.get j)≠.none->H.get j≠.none:=by
  intro j _ hj;by_cases e:j=i;·subst e;exact D
  rwa[ap e]at hj
 have f:∀j,(if j=i then(bO.cells c m e false aM fz)else H.get j).aM=(H.get j).aM/\(if j=i then(bO.cells c m e false aM fz)else H.get j).len=(H.get j).len:=by
  intro j;by_cases e:j=i;·subst e;rw[aH rfl,hi];exact⟨rfl,rfl⟩
  rw[ap e];exact⟨rfl,rfl⟩
 have F:∀j y,j≠i->H.get j≠.none->G j=some (b,y)->j∈aM/\y+(H.get j).len<=x+m:=by
  intro j y V hj a;rcases h.iY i j b x y (λe=>V e.symm) D hj hb a with⟨hm,_⟩|⟨hm,a6⟩;·have:=(h.aM i j hm).2 D;rw[a1]at this;cases this
  rw[K]at hm;rw[Q]at a6;exact⟨hm,a6⟩
 have ag:∀j o y,H.get j≠.none->G j=some (o,y)->o=b2->(j=i\/j∈aM)/\y+(H.get j).len<=x2+n2:=by
  intro j o y hj a u;rcases d with⟨h1,_⟩|⟨h1,_,h3,_⟩;·obtain⟨b3,y',_,W,b4,_⟩:=h.be hj;rw[a]at W;injection W with W;injection W with A _;omega
  by_cases e:j=i;·subst e;rw[hb]at a;injection a with a;injection a with _ a;subst a;exact⟨.inl rfl,by rw[Q];exact h3⟩
  have b6:o=b:=u.trans h1;subst b6;obtain⟨E,J⟩:=F j y e hj a;exact⟨.inr E,ab⟩
 refine⟨p,⟨?_,?_,?_,?_,?_,?_,?_,?_,?_,?_,?_,?_⟩,⟨ba,bb,bd,?_,?_⟩⟩
 .intro j hj;rw[l]at hj⊢;by_cases Y:j=H.next
  .subst Y;rw[aH rfl];refine⟨b2,x2,ob2,aQ.dW ..,?_,hr⟩;rcases d with⟨h1,h2⟩|⟨h1,h2,_⟩;·rw[h2,h1];simp
   rw[h2,h1,aeH];simp[hl]
  rw[ap Y]at hj⊢;have s:=n j Y hj;obtain⟨o,y,oc,T,dm,u,M⟩:=h.be s;have C:OR P G (if j=i then(bO.cells c m e false aM fz)else H.get j) y oc:=by
   by_cases A:j=i;·subst A;rw[aH rfl];rw[hi]at M;cases oc<;>simp only[OR]at M⊢;exact⟨M.1,M.2.1,M.2.2.1,λh=>by cases h⟩
   rw[ap A];exact M
  rcases d with⟨h1,h2⟩|⟨h1,h2,h3,cs,O,el,fr,E,J,g3,g4⟩;·exact⟨o,y,oc,(p _ _ T).1,by rw[h2,afT,ap ab];exact u,OR.mono p C⟩
  by_cases e4:o=b
  .subst e4;rw[u]at E;injection E with E;subst E;refine⟨o,y,ob2,(p _ _ T).1,by rw[h2,aeH];simp[hl],OR.mono p ?_⟩;subst J;have cR:y+(H.get j).len<=x+m:=by
    by_cases A:j=i;·subst A;rw[hb]at T;injection T with T;injection T with _ T;rw[Q];omega
    exact(F j y A s T).2
   have R:(if j=i then(bO.cells c m e false aM fz)else H.get j).jE=true:=by
    by_cases A:j=i;·rw[aH A];rfl
    rw[ap A];exact(h.aM j i (by rw[K];exact(F j y A s T).1)).2 s
   have av:=(f j).2;generalize(if j=i then(bO.cells c m e false aM fz)else H.get j)=oj at C R av;cases oj with
   |cells c5 n5 e5 b7 p5 f5=>
    simp only[OR]at C⊢;obtain⟨k1,k2,k3,k4⟩:=C;have dr:n5=(H.get j).len:=av;have b':b7=false:=by simpa[bO.jE]using R
    refine⟨k1,ab,λt ht=>?_,λh=>by rw[b']at h;cases h⟩;obtain⟨v,hv,ca⟩:=k3 t ht;exact⟨v,by rw[g4 _ ab];exact hv,ca⟩
   |_=>simp[bO.jE]at R
  exact⟨o,y,oc,(p _ _ T).1,by rw[h2,aeH,ap (λh=>e4 h.symm)];exact u,OR.mono p C⟩
 .intro j dv o y z a8 hj B a Z;rw[l]at hj B;rw[l,l];by_cases r:j=H.next
  .subst r;have e2:dv≠H.next:=λh=>a8 h.symm;rw[ap e2]at B⊢;rw[aH rfl];have I:=n dv e2 B;simp only[aQ.add,ap e2]at Z;rw[aQ.dW]at a;injection a with a;injection a with cd cf;obtain⟨E,J⟩:=ag dv o z I Z cd.symm;right;refine⟨?_,?_⟩
   .show dv∈i::aM;rcases E with g|g;·rw[g];exact acm ..
    exact aen _ g
   rw[(f dv).2,<-cf];exact J
  by_cases e2:dv=H.next
  .subst e2;rw[ap r]at hj⊢;rw[aH rfl];have s:=n j r hj;simp only[aQ.add,ap r]at a;rw[aQ.dW]at Z;injection Z with Z;injection Z with cn cp;obtain⟨E,J⟩:=ag j o y s a cn.symm;left;refine⟨?_,?_⟩
   .show j∈i::aM;rcases E with g|g;·rw[g];exact acm ..
    exact aen _ g
   rw[(f j).2,<-cp];exact J
  rw[ap r]at hj⊢;rw[ap e2]at B⊢;have s:=n j r hj;have I:=n dv e2 B;simp only[aQ.add,ap r,ap e2]at a Z;rw[(f j).1,(f j).2,(f dv).1,(f dv).2];exact h.iY j dv o y z a8 s I a Z
 .intro j dv B;rw[l]at B;rw[l];have ay:((H.set i (.cells c m e false aM fz)).new (.cells c2 n2 e2 true (i::aM) fz2)).next.az=H.next.az+1:=by show(H.next.succ).az=_;exact af.fH _
  rw[ay];by_cases e2:dv=H.next
  .rw[aH e2]at B;have I:j∈i::aM:=B;rcases aer.1 I with g|g;·subst g;have:=h.zD D;refine⟨ab,λ_=>?_⟩;rw[ap bv,aH rfl];rfl
   obtain⟨E,J⟩:=h.aM j i (by rw[K];exact g);refine⟨ab,λhj=>?_⟩;have r:j≠H.next:=λe=>by subst e;omega
   rw[ap r]at hj⊢;by_cases A:j=i;·rw[aH A];rfl
   rw[ap A]at hj⊢;exact J hj
  rw[ap e2,(f dv).1]at B;obtain⟨E,J⟩:=h.aM j dv B;refine⟨ab,λhj=>?_⟩;have r:j≠H.next:=λe=>by subst e;omega
  rw[ap r]at hj⊢;by_cases A:j=i;·rw[aH A];rfl
  rw[ap A]at hj⊢;exact J hj
 .intro j o y hj N a;rw[l]at hj N;by_cases r:j=H.next
  .subst r;rw[aQ.dW]at a;injection a with a;injection a with a _;rcases d with⟨h1,_⟩|⟨h1,_⟩;·exact(h.new o ab).1
   rw[<-a,h1];exact a2
  rw[ap r]at hj N;simp only[aQ.add,ap r]at a;by_cases A:j=i;·rw[aH A]at N;cases N
  rw[ap A]at hj N;exact h.wr j o y hj N a
 .intro j hj;have s:H.next.succ.az<=j.az:=hj;rw[af.fH]at s;have r:j≠H.next:=λe=>by subst e;omega
  have A:j≠i:=λe=>by subst e;have:=h.zD D;omega
  rw[l,ap r,ap A];obtain⟨E,J⟩:=h.dD j ab;exact⟨E,by simp[aQ.add,r,J]⟩
 .intro dv B;refine h.new dv ?_;rcases d with⟨_,h2⟩|⟨_,h2,_⟩;·rw[h2]at B;simp at B;omega
  rw[h2]at B;simpa using B
 .intro g hg;exact(p _ _ (h.jP g hg)).1
 .intro j o y oc hj a u;rw[l]at hj⊢;by_cases Y:j=H.next
  .subst Y;rw[aQ.dW]at a;injection a with a;injection a with a _;subst a;rw[aH rfl,aQ.pR];have:oc=ob2:=by
    rcases d with⟨h1,h2⟩|⟨h1,h2,_⟩;·rw[h2,h1,afT,aH rfl]at u;injection u with u;exact u.symm
    rw[h2,h1,aeH]at u;simp only[hl,bc,aas]at u;exact u.symm
   rw[this];exact hq
  rw[ap Y]at hj⊢;have s:=n j Y hj;simp only[aQ.add,ap Y]at a;rw[show(G.add H.next b2 x2 q).k o=G.k o from(p _ _ a).2];have b4:=h.dU j o y a;obtain⟨b3,y',aw,X,_,L,_⟩:=h.be s;rw[a]at X;injection X with X;injection X with cv cx;subst cv;subst cx;have S:=h.im j o y aw s a L;have eZ:ef P (G.k o) (if j=i then(bO.cells c m e false aM fz)else H.get j) aw:=by
   by_cases A:j=i;·subst A;rw[aH rfl];rw[hi]at S;cases aw<;>exact S
   rw[ap A];exact S
  rcases d with⟨h1,h2⟩|⟨h1,h2,h3,cs,O,el,fr,E,J,g3,g4⟩;·rw[h2,afT,ap ab,L]at u;injection u with u;rw[<-u];exact eZ
  rw[h2,aeH]at u;by_cases e4:b=o;·subst e4;simp only[hl,bc,aas]at u;rw[L]at E;injection E with E;subst E;rw[<-u,J];generalize(if j=i then(bO.cells c m e false aM fz)else H.get j)=oj at eZ;cases oj<;>simp only[ef]at eZ⊢;rw[g3];exact eZ
  rw[ap e4,L]at u;injection u with u;rw[<-u];exact eZ
 .intro j o y a;by_cases r:j=H.next
  .subst r;rw[aQ.dW]at a;injection a with a;injection a with a _;rcases d with⟨h1,h2⟩|⟨h1,h2,_⟩;·rw[h2,Array.size_push];omega
   rw[h2,Array.size_setIfInBounds];omega
  simp only[aQ.add,ap r]at a;have:=h.dU j o y a;rcases d with⟨h1,h2⟩|⟨h1,h2,_⟩;·rw[h2,Array.size_push];omega
  rw[h2,Array.size_setIfInBounds];omega
 .intro j o y hj a;rw[l]at hj;by_cases r:j=H.next
  .subst r;rw[aQ.dW]at a;injection a with a;injection a with a _;rcases d with⟨h1,_⟩|⟨h1,_⟩;·exact(h.new o ab).2
   rw[<-a,h1];exact h.rd i b x D hb
  rw[ap r]at hj;simp only[aQ.add,ap r]at a;exact h.rd j o y (n j r hj) a
 .intro j hj;obtain⟨h1,h2,h3⟩:=h.un j hj;have ax:j≠H.next:=λe=>by subst e;omega
  have V:j≠i:=λe=>D (by rw[<-e];exact h1);refine⟨by rw[l,ap ax,ap V];exact h1,?_,λdv B=>?_⟩;·show j.az<H.next.succ.az;rw[af.fH];omega
  rw[l]at B;by_cases e2:dv=H.next
  .rw[aH e2]at B;have I:j∈i::aM:=B;rcases aer.1 I with g|g;·exact V g
   exact h3 i (by rw[K];exact g)
  rw[ap e2,(f dv).1]at B;exact h3 dv B
 .intro j hj;obtain⟨h1,h2⟩:=h.di j hj;have ax:j≠H.next:=λe=>by have:=(h.un j h1).2.1;subst e;omega
  exact⟨h1,by simp[aQ.add,ax,h2]⟩
 .rcases d with⟨_,h2⟩|⟨_,h2,_⟩<;>rw[h2]<;>simp
 intro dv B cy;rcases d with⟨_,h2⟩|⟨_,h2,_⟩;·rw[h2,afT,ap ab]
 have:dv≠b:=λe=>cy (e▸a2);rw[h2,aeH,ap (λh=>this h.symm)]
end
section
mutual
theorem zG(ρ:aQ):∀(v:Value)(a:AV),fk v=some a->VR ρ a v
 |.bool b,a,h=>by simp only[fk,aas]at h;subst h;simp[VR]
 |.int k n,a,h=>by simp only[fk,aas]at h;subst h;simp[VR]
 |.string s,a,h=>by simp only[fk,aas]at h;subst h;simp[VR]
 |.pointer none,a,h=>by simp only[fk,aas]at h;subst h;simp[VR]
 |.slice none 0 0,a,h=>by simp only[fk,aas]at h;subst h;simp[VR]
 |.map none,a,h=>by simp only[fk,aas]at h;subst h;simp[VR]
 |.nilFunc,a,h=>by simp only[fk,aas]at h;subst h;simp[VR]
 |.nilIface,a,h=>by simp only[fk,aas]at h;subst h;simp[VR]
 |.func (.func f) x y,a,h=>by
  simp only[fk]at h
  split at h
  .rename_i l m hl d
   injection h with h;subst h
   simp only[VR]
   exact⟨trivial,xu ρ x.toList l hl,xu ρ y.toList m d⟩
  .cases h
 |.agg l,a,h=>by
  simp only[fk,aes]at h
  obtain⟨m,d,h⟩:=h;subst h
  simp only[VR];exact xu ρ l.toList m d
 |.tuple l,a,h=>by
  simp only[fk,aes]at h
  obtain⟨m,d,h⟩:=h;subst h
  simp only[VR];exact xu ρ l.toList m d
 |.iface t v,a,h=>by
  simp only[fk,aes]at h
  obtain⟨m,d,h⟩:=h;subst h
  simp only[VR];exact⟨trivial,zG ρ v m d⟩
 |.float ..,a,h=>by simp[fk]at h
 |.complex ..,a,h=>by simp[fk]at h
 |.pointer (some _),a,h=>by simp[fk]at h
 |.slice (some _) _ _,a,h=>by simp[fk]at h
 |.slice none (_+1) _,a,h=>by simp[fk]at h
 |.slice none 0 (_+1),a,h=>by simp[fk]at h
 |.map (some _),a,h=>by simp[fk]at h
 |.chan _,a,h=>by simp[fk]at h
 |.func (.method _) _ _,a,h=>by simp[fk]at h
 |.func (.methodOf ..) _ _,a,h=>by simp[fk]at h
 |.func (.via ..) _ _,a,h=>by simp[fk]at h
 |.func (.yield _) _ _,a,h=>by simp[fk]at h
theorem xu(ρ:aQ):∀(l:List Value)(m:List AV),qU l=some m->aR ρ m l
 |[],m,h=>by simp only[qU,aas]at h;subst h;simp[aR]
 |v::l,m,h=>by
  simp only[qU]at h
  split at h
  .rename_i a b d e
   injection h with h;subst h
   simp only[aR];exact⟨zG ρ v a d,xu ρ l b e⟩
  .cases h
end
section jf
variable{ρ:aQ}{c:Value}
theorem VR.kT{i:af}{o:Nat}(h:VR ρ (.aD i o) c):∃b x,ρ i=some (b,x)/\c=.pointer (some ⟨b,x+o,none⟩):=by
 cases c with
 |pointer p=>cases p with|none=>simp only[VR]at h|some p=>simp only[VR]at h;obtain⟨b,x,h1,h2⟩:=h;exact⟨b,x,h1,by rw[h2]⟩
 |_=>simp only[VR]at h
theorem VR.zH(h:VR ρ .j5 c):c=.pointer none:=by
 cases c with
 |pointer p=>cases p with|none=>rfl|some p=>simp only[VR]at h
 |_=>simp only[VR]at h
theorem VR.nK{b:Bool}(h:VR ρ (.bool b) c):c=.bool b:=by cases c<;>simp only[VR]at h;rw[h]
theorem VR.hZ{k:Nat}{n:Int}(h:VR ρ (.int k n) c):∃a,k=kc a/\c=.int a n:=by cases c<;>simp only[VR]at h;exact⟨_,h.1,by rw[h.2]⟩
theorem VR.ky{s:List Nat}(h:VR ρ (.str s) c):∃t:ByteArray,t.data.toList.map af5=s/\c=.string t:=by cases c<;>simp only[VR]at h;exact⟨_,h,rfl⟩
theorem VR.lx{i:af}{o len cap:Nat}{ex:Bool}(h:VR ρ (.slice i o len cap ex) c):∃ad a,c=.slice (some ad) len a/\len<=cap/\cap<=a/\(ex=true->a=cap)/\∃b x,ρ i=some (b,x)/\(a≠0->ad=⟨b,x+o,none⟩)/\(ex=false->x+o+a*(ρ.k b).2<=(ρ.k b).1):=by
 cases c with
 |slice p n a=>cases p with|none=>simp only[VR]at h|some p=>simp only[VR]at h;obtain⟨h1,h2,h3,d,b,x,e,f,g⟩:=h;exact⟨p,a,by rw[h1],h2,h3,d,b,x,e,f,g⟩
 |_=>simp only[VR]at h
theorem VR.kz(h:VR ρ .aG c):c=.slice none 0 0:=by
 cases c with
 |slice p n a=>cases p with|none=>cases n<;>cases a<;>simp only[VR]at h<;>rfl|some p=>simp only[VR]at h
 |_=>simp only[VR]at h
theorem VR.ly{i:af}(h:VR ρ (.map i) c):∃b,ρ i=some (b,0)/\c=.map (some b):=by
 cases c with
 |map p=>cases p with|none=>simp only[VR]at h|some p=>simp only[VR]at h;exact⟨p,h,rfl⟩
 |_=>simp only[VR]at h
theorem VR.pV(h:VR ρ .d9 c):c=.map none:=by
 cases c with
 |map p=>cases p with|none=>rfl|some p=>simp only[VR]at h
 |_=>simp only[VR]at h
theorem VR.oU{l:List AV}(h:VR ρ (.agg l) c):∃cs:Array Value,aR ρ l cs.toList/\c=.agg cs:=by cases c<;>simp only[VR]at h;exact⟨_,h,rfl⟩
theorem VR.NI{l:List AV}(h:VR ρ (.tuple l) c):∃cs:Array Value,aR ρ l cs.toList/\c=.tuple cs:=by cases c<;>simp only[VR]at h;exact⟨_,h,rfl⟩
theorem VR.uP{t:Nat}{v:AV}(h:VR ρ (.iface t v) c):∃x,VR ρ v x/\c=.iface t x:=by cases c<;>simp only[VR]at h;exact⟨_,h.2,by rw[h.1]⟩
theorem VR.xw(h:VR ρ .nilIface c):c=.nilIface:=by cases c<;>simp only[VR]at h;rfl
theorem VR.zI{f:Nat}{a b:List AV}(h:VR ρ (.func f a b) c):∃x y:Array Value,aR ρ a x.toList/\aR ρ b y.toList/\c=.func (.func f) x y:=by cases c with|func fn x y=>cases fn<;>simp only[VR]at h;exact⟨x,y,h.2.1,h.2.2,by rw[h.1]⟩|_=>simp only[VR]at h
theorem VR.zJ{i:af}(h:VR ρ (.yield i) c):∃b,ρ i=some (b,0)/\c=.func (.yield b) #[] #[]:=by cases c with|func fn x y=>cases fn<;>simp only[VR]at h;exact⟨_,h.1,by rw[h.2.1,h.2.2]⟩|_=>simp only[VR]at h
theorem VR.uQ(h:VR ρ .nilFunc c):c=.nilFunc:=by cases c with|nilFunc=>rfl|func fn x y=>cases fn<;>simp only[VR]at h|_=>simp only[VR]at h
end jf
variable{P:Program}
theorem bJ{t:TypeId}{d:TypeDesc}(h:P.underlying t=some d)(w:World):(underlying t).run P w=.ok d w:=by simp[underlying,h]
theorem Gt{t:TypeId}{s:Nat}(h:dV P t=some s):∃i,P.info? t=some i/\i.size=s:=by simpa[dV,aes]using h
theorem CO{t:TypeId}{s:Nat}(h:uH P t=some s):∃i,P.info? t=some i/\i.bytes=s:=by simpa[uH,aes]using h
theorem uR{t:TypeId}{i:TypeInfo}(h:P.info? t=some i)(w:World):(typeInfo t).run P w=.ok i w:=by simp[typeInfo,h]
theorem gN{t:TypeId}{s:Nat}(h:dV P t=some s)(w:World):(sizeOf t).run P w=.ok s w:=by obtain⟨i,h1,h2⟩:=Gt h;simp[sizeOf,uR h1,h2]
theorem NJ{v:Value}{z:AV}(h:fk v=some z):z.bq=true:=by
 cases z<;>first|rfl|skip
 exfalso;unfold fk at h;split at h<;>(first|(cases h;done)|(rw[aes]at h;obtain⟨_,_,h⟩:=h;cases h;done)|(split at h<;>first|(cases h;done)|skip))
theorem Gu{v:AV}(h:cE v.cells=true):v.bq=true:=by cases v<;>first|rfl|(simp[AV.cells,cE,AV.db]at h)
theorem NK{t:TypeId}{z:AV}(h:lU P t=some z):∃i v,P.info? t=some i/\i.zero=some v/\fk v=some z:=by simp only[lU,aaw]at h;obtain⟨i,h1,v,h2,h3⟩:=h;exact⟨i,v,h1,h2,h3⟩
theorem pW{t:TypeId}{z:AV}(h:lU P t=some z):∃v,(∀w,(zeroValue t).run P w=.ok v w)/\(∀ρ,VR ρ z v)/\z.bq=true:=by obtain⟨i,v,h1,h2,h3⟩:=NK h;exact⟨v,λw=>by simp[zeroValue,uR h1,h2],λρ=>zG ρ v z h3,NJ h3⟩
theorem xx{t:TypeId}{b:Bool}(h:lu P t=some b)(w:World):(isAgg t).run P w=.ok b w:=by simp only[lu,aes]at h;obtain⟨d,h1,h2⟩:=h;simp only[isAgg,Sem.run_bind,bJ h1,Result.andThen_ok];cases d<;>simp_all
theorem uS{i:bS}{ρ:aQ}{H:ai}{w:World}{e:Nat}{x:Operand}{h:aK}(b:eB P e x=some h){aa:am AV}{a:Act}(j:fW ρ e aa a.tmps)(k:bh P i ρ H w):VR ρ (gv aa h) (a.eval x):=by
 cases x with
 |tmp t=>
  simp only[eB]at b;split at b;·rename_i d;injection b with b;subst b;exact j.2 t d
  cases b
 |const v=>simp only[eB,aes]at b;obtain⟨c,l,b⟩:=b;subst b;exact zG ρ v c l
 |global g=>
  simp only[eB]at b;split at b;·rename_i d;injection b with b;subst b;simp only[gv,Act.eval,VR];exact⟨g,0,k.jP g d,rfl⟩
  cases b
 |func f=>simp only[eB,aas]at b;subst b;simp[gv,Act.eval,VR,aR]
theorem uT{f:bS}{ρ:aQ}{H:ai}{w:World}{b:Nat}{aa:am AV}{a:Act}(d:fW ρ b aa a.tmps)(e:bh P f ρ H w):∀{l:List Operand}{ol:List aK},l.mapM (eB P b)=some ol->aR ρ (ol.map (gv aa)) (l.map a.eval)|[],ol,h=>by simp at h;subst h;simp[aR]|x::l,ol,h=>by simp only[agd,aep,aaw,aet,aas]at h;obtain⟨i,h1,g,h2,h3⟩:=h;subst h3;simp only[aez,aR];exact⟨uS h1 d e,uT d e h2⟩
def acC(P:Program)(s:Sem Value)(w:World)(Q:Value->World->Prop):Prop:=∃v w',s.run P w=.ok v w'/\Q v w'
def b9(P:Program)(b:bS)(ρ:aQ)(w:World)(v:AV)(d:ai)(c:Value)(w':World):Prop:=
 ∃a,bR ρ a/\VR a v c/\bh P b a d w'/\cW b w w'
theorem b9.bL{a:bS}{ρ:aQ}{H:ai}{w:World}{v:AV}{c:Value}(b:bh P a ρ H w)(h:VR ρ v c):b9 P a ρ w v H c w:=⟨ρ,bR.refl ρ,h,b,cW.refl a w⟩
theorem uU{f:bS}{ρ:aQ}{H:ai}{w:World}(g:bh P f ρ H w){l:List AV}{m:List Value}(h:aR ρ l m)(e n:Nat)(r:n=l.length)(a:List Value):bR ρ (ρ.add H.next w.heap.size 0 ((m++a).length,(dV P e).getD 0))/\bh P f (ρ.add H.next w.heap.size 0 ((m++a).length,(dV P e).getD 0)) (H.new (.cells (bX l) n e true [] 0)) {w with heap:=w.heap.push (.cells (m++a).toArray e (0,0))}/\cW f w {w with heap:=w.heap.push (.cells (m++a).toArray e (0,0))}:=by
 have d:bR ρ (ρ.add H.next w.heap.size 0 ((m++a).length,(dV P e).getD 0)):=aQ.pS w.heap.size 0 _ (g.dD H.next (aeq _)).2 (λj c y o s=>by have:=g.dU j c y o;omega);refine g.alloc _ (by simp[ef]) aC rfl ?_;have k:=aR.length h;simp only[OR];refine⟨trivial,by simp;omega,λi hi=>?_,λ_ i _ _=>by omega⟩;have b:i<l.length:=ab;obtain⟨y,p,q⟩:=aR.get h i l[i] (by simp[b]);refine⟨y,?_,?_⟩;·have:i<m.length:=ab;simp[aeM this,p]
 rw[lW l i b];exact VR.mono d _ _ (by simpa[agt,b]using q)
end
section
variable{P:Program}
def bo(P:Program)(b:bS)(ρ:aQ)(w:World)(s:Sem Next)(v:AV)(H':ai):Prop:=
 ∃c w',(s.run P w=.ok (.value c) w'\/(s.run P w=.ok .skip w'/\c=undef))/\b9 P b ρ w v H' c w'
theorem bo.val{b:bS}{ρ:aQ}{w w':World}{s:Sem Next}{v:AV}{H':ai}{c:Value}(h:s.run P w=.ok (.value c) w')(d:b9 P b ρ w v H' c w'):bo P b ρ w s v H':=⟨c,w',.inl h,d⟩
section
variable{b:bS}{ρ:aQ}{H H':ai}{w:World}{nt:Nat}{aa:am AV}{a:Act}{o:Oper}{ao:bC}{v:AV}
structure cO(P:Program)(Wr:bS)(ρ:aQ)(H:ai)(w:World)(nt:Nat)(aa:am AV)(a:Act):Prop where
 E:fW ρ nt aa a.tmps
 I:bh P Wr ρ H w
theorem cO.gv(h:cO P b ρ H w nt aa a){x:Operand}{c:aK}(d:eB P nt x=some c):VR ρ (gv aa c) (a.eval x):=uS d h.E h.I
theorem Gv(h:cO P b ρ H w nt aa a){x:Operand}(c:o.op=.move x\/o.op=.assign x)(f:bG P nt o=some ao)(he:aE ao aa H=some (v,H')):bo P b ρ w (execOp a.eval o) v H':=by
 have e:∃d,eB P nt x=some d/\ao=.bw d:=by rcases c with c|c<;>simp only[bG,c,aep,aaw,aet,aas]at f<;>obtain⟨d,h1,h2⟩:=f<;>exact⟨d,h1,h2.symm⟩
 obtain⟨d,h1,rfl⟩:=e;simp only[aE,aas,acn]at he;obtain⟨rfl,rfl⟩:=he;refine bo.val (c:=a.eval x) (w':=w) ?_ (b9.bL h.I (h.gv h1));rcases c with c|c<;>simp[execOp,c]
theorem NL(h:cO P b ρ H w nt aa a){c x y:Operand}(d:o.op=.pick c x y)(e:bG P nt o=some ao)(he:aE ao aa H=some (v,H')):bo P b ρ w (execOp a.eval o) v H':=by
 simp only[bG,d,aep,aaw,aet,aas]at e;obtain⟨j,h1,k,h2,l,h3,rfl⟩:=e;simp only[aE]at he;have f:=h.gv h1;split at he
 .rename_i t g;simp only[aas,acn]at he;obtain⟨rfl,rfl⟩:=he;rw[g]at f;have i:=f.nK;refine bo.val (c:=if t then a.eval x else a.eval y) (w':=w) (by simp[execOp,d,i,asBool]) (b9.bL h.I ?_);cases t;·exact h.gv h3
  exact h.gv h2
 cases he
theorem NM(h:cO P b ρ H w nt aa a){e:TypeId}(f:o.op=.alloc e)(g:bG P nt o=some ao)(he:aE ao aa H=some (v,H')):bo P b ρ w (execOp a.eval o) v H':=by
 simp only[bG,f,aep,aaw,aet,aas]at g;obtain⟨z,h1,rfl⟩:=g;simp only[aE,aas,acn]at he;obtain⟨rfl,rfl⟩:=he;obtain⟨zv,i,c,d⟩:=pW h1;obtain⟨j,k,l⟩:=uU h.I (VR.cells (c ρ) d) e z.cells.length rfl [];refine bo.val (c:=.pointer (some ⟨w.heap.size,0,none⟩)) (w':={w with heap:=w.heap.push (.cells (zv.cells.toList++[]).toArray e (0,0))}) ?_ ⟨_,j,?_,k,l⟩;·simp[execOp,f,Instr.alloc,i,newVar,newRow]
 simp only[VR];exact⟨_,_,aQ.dW ..,aC⟩
theorem NN(h:cO P b ρ H w nt aa a){e:TypeId}{x:Operand}(d:o.op=.box e x)(f:bG P nt o=some ao)(he:aE ao aa H=some (v,H')):bo P b ρ w (execOp a.eval o) v H':=by
 simp only[bG,d,aep,aaw,aet,aas]at f;obtain⟨k,h1,rfl⟩:=f;simp only[aE]at he;split at he
 .rename_i c;simp only[aas,acn]at he;obtain⟨rfl,rfl⟩:=he;obtain⟨g,i,j⟩:=uU h.I (VR.cells (h.gv h1) (Gu c)) e _ rfl [];refine bo.val (c:=.pointer (some ⟨w.heap.size,0,none⟩)) (w':={w with heap:=w.heap.push (.cells ((a.eval x).cells.toList++[]).toArray e (0,0))}) ?_ ⟨_,g,?_,i,j⟩;·simp[execOp,d,Instr.box,newVar,newRow]
  simp only[VR];exact⟨_,_,aQ.dW ..,aC⟩
 cases he
theorem Gw(D:bh P b ρ H w){z:AV}{c:Value}(E:VR ρ z c){t:TypeId}{n:Nat}{g:Bool}(hg:lu P t=some g)(A:g=true->dV P t=some n)(p:g=false->n=1)(he:gz H z n g=some v):∃O,c=.pointer (some O)/\∃r,(loadVar t O).run P w=.ok r w/\VR ρ v r:=by
 unfold gz at he;split at he
 .rename_i id off;obtain⟨O,x,hb,rfl⟩:=E.kT;refine⟨_,rfl,?_⟩;simp only[du]at he;split at he
  .rename_i l hl;split at hl
   .rename_i c m e J aM fz hi;have s:H.get id≠.none:=by rw[hi];simp
    obtain⟨L,M,F,j,h,i,d⟩:=D.be s;rw[hb]at j;injection j with j;injection j with G I;subst G;subst I;rw[hi]at d;cases F with
    |cells cs N fr=>
     obtain⟨f,B⟩:=zF d hl;cases g with
     |true=>
      simp only[bc,aas]at he;subst he;rcases af6 n with k|k
      .subst k;refine⟨.agg #[],?_,?_⟩;·simp[loadVar,xx hg,gN (A rfl),loadCells,loadCellsFrom]
       simp only[VR];simpa using f
      refine⟨.agg ((cs.toList.drop (x+off)).take n).toArray,?_,by simp only[VR];simpa using f⟩;simp only[loadVar,Sem.run_bind,xx hg,Result.andThen_ok,bc,gN (A rfl),xm w i (x+off) n (B k),Sem.run_pure]
     |false=>
      have:=p rfl;subst this;simp only[abu,bA]at he;have K:=B ab;obtain⟨y,C⟩:∃y,cs[x+off]?=some y:=⟨cs[x+off],aC⟩;have u:(cs.toList.drop (x+off)).take 1=[y]:=by
       have h:x+off<cs.toList.length:=by simp;omega
       rw[aeE h];simp only[afJ,afE];have:cs.toList[x+off]=y:=by simpa[Array.getElem?_eq_getElem (show x+off<cs.size by omega)]using C
       rw[this]
      rw[u]at f;cases l with|nil=>simp[aR]at f|cons q l=>simp only[aR]at f;simp only[List.head?_cons,aas]at he;subst he;refine⟨y,?_,f.1⟩;simp only[loadVar,Sem.run_bind,xx hg,Result.andThen_ok,abu,bA];exact NG w (by rw[CJ w i];exact C)
    |_=>simp[OR]at d
   cases hl
  cases he
 cases he
theorem NO(h:cO P b ρ H w nt aa a){t:TypeId}{x:Operand}(f:o.op=.load t x)(c:bG P nt o=some ao)(he:aE ao aa H=some (v,H')):bo P b ρ w (execOp a.eval o) v H':=by
 simp only[bG,f,aep,aaw,aet,aas]at c;obtain⟨g,hg,c⟩:=c;have key:∃d n,eB P nt x=some d/\(g=true->dV P t=some n)/\(g=false->n=1)/\∃q,gz H (gv aa d) n g=some q/\v=q/\H'=H:=by cases g with|true=>simp only[bc,aaw,aas]at c;obtain⟨n,i,d,h1,rfl⟩:=c;simp only[aE,aes,acn]at he;obtain⟨q,e,rfl,rfl⟩:=he;exact⟨d,n,h1,λ_=>i,aC,_,e,rfl,rfl⟩|false=>simp only[abu,bA,aaw,aas]at c;obtain⟨d,h1,rfl⟩:=c;simp only[aE,aes,acn]at he;obtain⟨q,e,rfl,rfl⟩:=he;exact⟨d,1,h1,aC,λ_=>rfl,_,e,rfl,rfl⟩
 obtain⟨d,n,h1,h2,h3,q,e,rfl,rfl⟩:=key;obtain⟨l,hb,r,j,k⟩:=Gw h.I (h.gv h1) hg h2 h3 e;exact bo.val (c:=r) (w':=w) (by simp[execOp,f,hb,Instr.loadAt,Instr.sureAddr,j]) (b9.bL h.I k)
theorem NP{id:af}{off:Nat}{l:List AV}(h:gw H id off l=some H'):cE l=true:=by
 unfold gw at h;split at h
 .split at h;·rename_i c;simp only[aew]at c;exact c.2
  cases h
 cases h
theorem NQ(h:cO P b ρ H w nt aa a){t:TypeId}{x y:Operand}(e:o.op=.store t x y)(f:bG P nt o=some ao)(he:aE ao aa H=some (v,H')):bo P b ρ w (execOp a.eval o) v H':=by
 simp only[bG,e,aep,aaw,aet,aas]at f;obtain⟨n,k,s,h1,u,h2,rfl⟩:=f;simp only[aE]at he;have g:=h.gv h1;split at he
 .rename_i id off l;rw[l]at g;split at he
  .rename_i j;split at he
   .rename_i A i;simp only[aas,acn]at he;obtain⟨rfl,rfl⟩:=he;obtain⟨B,z,hb,m⟩:=g.kT;have c:=VR.cells (h.gv h2) (Gu (NP i));obtain⟨p,q,r⟩:=xp h.I i hb c;have d:(a.eval y).cells.size=n:=by have:=aR.length c;simp at this;omega
    refine⟨undef,_,.inr ⟨?_,rfl⟩,⟨ρ,bR.refl ρ,VR.agx ρ,q,r⟩⟩;simp[execOp,e,m,Instr.storeAt,Instr.sureAddr,storeVar,gN k,d,p]
   cases he
  cases he
 cases he
end
end
section
variable{P:Program}{d:bS}{ρ:aQ}{H H':ai}{w:World}{nt:Nat}{aa:am AV}{a:Act}{o:Oper}{ao:bC}{v:AV}
theorem NR(h:cO P d ρ H w nt aa a){x:Operand}(f:o.op=.nilCheck x)(g:bG P nt o=some ao)(he:aE ao aa H=some (v,H')):bo P d ρ w (execOp a.eval o) v H':=by
 simp only[bG,f,aep,aaw,aet,aas]at g;obtain⟨j,h1,rfl⟩:=g;simp only[aE]at he;have e:=h.gv h1;split at he<;>(try cases he)<;>rename_i i<;>rw[i]at e;·obtain⟨b,z,hb,c⟩:=e.kT;exact bo.val (by simp[execOp,f,c]) (b9.bL h.I (c▸e))
 .obtain⟨k,l,_,_,c⟩:=e.zI;exact bo.val (by simp[execOp,f,c]) (b9.bL h.I (c▸e))
 .obtain⟨b,hb,c⟩:=e.zJ;exact bo.val (by simp[execOp,f,c]) (b9.bL h.I (c▸e))
 .obtain⟨y,_,c⟩:=e.uP;exact bo.val (by simp[execOp,f,c]) (b9.bL h.I (c▸e))
 .obtain⟨b,hb,c⟩:=e.ly;exact bo.val (by simp[execOp,f,c]) (b9.bL h.I (c▸e))
 obtain⟨ad,m,c,_⟩:=e.lx;exact bo.val (by simp[execOp,f,c]) (b9.bL h.I (c▸e))
theorem oV(k:IntKind):ck (kc k)=k:=by cases k<;>rfl
theorem sN{j k:IntKind}(h:kc j=kc k):j=k:=by have:=congrArg ck h;simpa[oV]using this
theorem eU(a b:Int):gU a b=(a==b):=by
 cases a with
 |ofNat m=>cases b with|ofNat n=>show aeF m n=_;rw[afy];simp;omega|negSucc n=>show false=_;symm;rw[beq_eq_false_iff_ne];intro e;cases e
 |negSucc m=>cases b with|ofNat n=>show false=_;symm;rw[beq_eq_false_iff_ne];intro e;cases e|negSucc n=>show aeF m n=_;rw[afy];simp
theorem lz(a b:Int):jz a b=decide (a<b):=by
 cases a with
 |ofNat m=>cases b with|ofNat n=>show ae0 m n=_;rw[afy];simp[ae0];omega|negSucc n=>show false=_;symm;simp only[decide_eq_false_iff_not,aev];omega
 |negSucc m=>cases b with|ofNat n=>show true=_;symm;simp only[decide_eq_true_eq,aev];omega|negSucc n=>show ae0 n m=_;rw[afy];simp[ae0];omega
theorem xy(n:Int)(h1: -9223372036854775808<=n)(h2:n<9223372036854775808):IntKind.i64.wrap n=n:=by unfold IntKind.wrap IntKind.signed IntKind.bits;simp only[agj,decide_eq_true_eq];have b:(2:Int)^64=18446744073709551616:=bK;have c:(2:Int)^(64 - 1)=9223372036854775808:=bK;rw[b,c];split<;>omega
theorem NS(n:Int)(h1:0<=n)(h2:n<256):IntKind.u8.wrap n=n:=by unfold IntKind.wrap IntKind.signed IntKind.bits;simp only[Bool.false_and,abu,bA];have b:(2:Int)^8=256:=bK;rw[b];omega
theorem sO(k:IntKind)(n:Int):fA (kc k) n=k.wrap n:=by
 have b:ko (kc k) n=k.wrap n:=by rw[ko,oV]
 unfold fA;split
 .rename_i m e;split
  .rename_i f;have c:k=.i64:=by cases k<;>simp[kc]at e⊢
   subst c;have:m<9223372036854775808:=ae2 (Nat.lt_succ_self m) (aeG f);exact(xy _ (by simp only[aev];omega) (by simp only[aev];omega)).symm
  rw[e]at b;exact b
 .rename_i m e;split
  .rename_i f;have c:k=.i64:=by cases k<;>simp[kc]at e⊢
   subst c;have:m<9223372036854775808:=ae2 (Nat.lt_succ_self m) (aeG f);exact(xy _ ab ab).symm
  rw[e]at b;exact b
 .rename_i m e;split
  .rename_i f;have c:k=.u8:=by cases k<;>simp[kc]at e⊢
   subst c;have:m<256:=ae2 (Nat.lt_succ_self m) (aeG f);exact(NS _ (by simp only[aev];omega) (by simp only[aev];omega)).symm
  rw[e]at b;exact b
 exact b
theorem qX:∀(a b:List Nat),ie a b=(a==b)|[],[]=>rfl|[],_::_=>rfl|_::_,[]=>rfl|a::l,b::m=>by rw[ie,qX l m];rw[afy];simp
theorem NT{op:BinOp}{k:IntKind}{x y:Int}{r:AV}(h:eT op (kc k) x y=some r)(b:op≠.shl/\op≠.shr)(t:TypeId)(w:World):∃c,(binOp op t (.int k x) (.int k y)).run P w=.ok c w/\VR ρ r c:=by
 cases op<;>simp only[eT]at h<;>(try cases h)<;>(try(exact absurd rfl b.1))<;>(try(exact absurd rfl b.2));·exact⟨.int k (k.wrap (x+y)),by simp[binOp,Op.intArith],by simp[VR,sO]⟩
 .exact⟨.int k (k.wrap (x - y)),by simp[binOp,Op.intArith],by simp[VR,sO]⟩
 .exact⟨.int k (k.wrap (x*y)),by simp[binOp,Op.intArith],by simp[VR,sO]⟩
 .split at h;·cases h
  rename_i e;injection h with h;subst h;exact⟨.int k (k.wrap (x.tdiv y)),by simp[binOp,Op.intDiv,e],by simp[VR,sO]⟩
 .split at h;·cases h
  rename_i e;injection h with h;subst h;exact⟨.int k (x.tmod y),by simp[binOp,Op.intDiv,e],by simp[VR]⟩
 .exact⟨.int k (k.wrap (afr k.bits x&&&afr k.bits y).toNat),by simp[binOp,Op.intBits],by simp only[VR,ko];simp[oV]⟩
 .exact⟨.int k (k.wrap (afr k.bits x|||afr k.bits y).toNat),by simp[binOp,Op.intBits],by simp only[VR,ko];simp[oV]⟩
 .exact⟨.int k (k.wrap (afr k.bits x^^^afr k.bits y).toNat),by simp[binOp,Op.intBits],by simp only[VR,ko];simp[oV]⟩
 .exact⟨.int k (k.wrap (afr k.bits x&&& ~~~afr k.bits y).toNat),by simp[binOp,Op.intBits],by simp only[VR,ko];simp[oV]⟩
 .exact⟨.bool (x==y),by simp[binOp,Op.intCmp],by simp[VR,eU]⟩
 .exact⟨.bool (x !=y),by simp[binOp,Op.intCmp],by simp[VR,eU,bne]⟩
 .exact⟨.bool (decide (x<y)),by simp[binOp,Op.intCmp],by simp[VR,lz]⟩
 .exact⟨.bool (decide (x<=y)),by simp[binOp,Op.intCmp],by simp only[VR,lz];rw[afy];simp⟩
 .exact⟨.bool (decide (y<x)),by simp[binOp,Op.intCmp],by simp[VR,lz]⟩
 exact⟨.bool (decide (y<=x)),by simp[binOp,Op.intCmp],by simp only[VR,lz];rw[afy];simp⟩
theorem CP(op:BinOp)(t:TypeId)(x y:Operand)(k b:IntKind)(m n:Int)(w:World):(eqGuard op t x y (.int k m) (.int b n)).run P w=.ok () w:=by unfold eqGuard;split<;>simp
theorem NU(h:cO P d ρ H w nt aa a){op:BinOp}{t B:TypeId}{x y:Operand}{k:IntKind}(s:o.op=.binOp op t x y B)(hu:P.underlying t=some (.int k))(b:op≠.shl/\op≠.shr)(l:bG P nt o=some ao)(he:aE ao aa H=some (v,H')):bo P d ρ w (execOp a.eval o) v H':=by
 have r:∃f g,eB P nt x=some f/\eB P nt y=some g/\ao=.arith op (kc k) f g:=by simp only[bG,s,eY,hu,aep,afY]at l;cases op<;>simp only[aaw,aet,aas]at l<;>first|(exact absurd rfl b.1)|(exact absurd rfl b.2)|(obtain⟨f,h1,g,h2,h3⟩:=l;exact⟨f,g,h1,h2,h3.symm⟩)
 obtain⟨f,g,h1,h2,rfl⟩:=r;simp only[aE,aes,acn]at he;obtain⟨q,e,rfl,rfl⟩:=he;have u:=h.gv h1;have z:=h.gv h2;unfold uu at e;split at e
 .rename_i i m j n C D;split at e;·rename_i p;simp only[aew]at p;have L:i=kc k:=aey p.1;have M:j=kc k:=aey p.2;rw[C]at u;rw[D]at z;obtain⟨A,N,E⟩:=u.hZ;obtain⟨F,O,G⟩:=z.hZ;have:A=k:=sN ab;subst this;have:F=A:=sN ab;subst this;obtain⟨c,J,K⟩:=NT (P:=P) (ρ:=ρ) e b t w;exact bo.val (c:=c) (w':=w) (by simp[execOp,s,E,G,CP,J]) (b9.bL h.I K)
  cases e
 cases e
theorem NV(h:cO P d ρ H w nt aa a){op:BinOp}{t C:TypeId}{x y:Operand}{k:IntKind}(l:o.op=.binOp op t x y C)(hu:P.underlying t=some (.int k))(g:op=.shl\/op=.shr)(s:bG P nt o=some ao)(he:aE ao aa H=some (v,H')):bo P d ρ w (execOp a.eval o) v H':=by
 have p:∃c e,eB P nt x=some c/\eB P nt y=some e/\ao=.shift op c e:=by rcases g with rfl|rfl<;>simp only[bG,l,eY,hu,aep,afY,aaw,aet,aas]at s<;>(obtain⟨c,h1,e,h2,h3⟩:=s;exact⟨c,e,h1,h2,h3.symm⟩)
 obtain⟨c,e,h1,h2,rfl⟩:=p;simp only[aE,aes,acn]at he;obtain⟨q,b,rfl,rfl⟩:=he;have u:=h.gv h1;have z:=h.gv h2;unfold zm at b;split at b
 .rename_i i m j n D E;rw[D]at u;rw[E]at z;obtain⟨f,r,A⟩:=u.hZ;obtain⟨G,F,B⟩:=z.hZ;subst r;rcases g with rfl|rfl;·simp only[aas]at b;subst b;refine bo.val (c:=.int f (f.wrap (m*2^(min n f.bits)))) (w':=w) ?_ (b9.bL h.I (by simp[VR,sO,oV]));simp[execOp,l,A,B,CP,binOp,Op.shift];omega
  simp only[aas]at b;subst b;refine bo.val (c:=.int f (m.fdiv (2^(min n f.bits)))) (w':=w) ?_ (b9.bL h.I (by simp[VR,oV]));simp[execOp,l,A,B,CP,binOp,Op.shift];omega
 cases b
end
section
variable{P:Program}{b:bS}{ρ:aQ}{H H':ai}{w:World}{nt:Nat}{aa:am AV}{a:Act}{o:Oper}{ao:bC}{v:AV}
theorem Gx{x y:UInt8}(h:x.toNat=y.toNat):x=y:=UInt8.toNat_inj.1 h
theorem CQ:∀{l m:List UInt8},l.map af5=m.map af5->l=m|[],[],_=>rfl|[],_::_,h=>by simp at h|_::_,[],h=>by simp at h|a::l,c::m,h=>by simp only[aez,ae1]at h;rw[Gx h.1,CQ h.2]
theorem Gy(s t:ByteArray):(s.toList==t.toList)=ie (s.data.toList.map af5) (t.data.toList.map af5):=by rw[ByteArray.toList_eq,ByteArray.toList_eq,qX,afy];simp only[beq_iff_eq];exact⟨λh=>by rw[h],CQ⟩
theorem Gz:∀(l m:List UInt8),Op.bytesLess l m=nq (l.map af5) (m.map af5)
 |[],[]=>rfl
 |_::_,[]=>rfl
 |[],_::_=>rfl
 |a::l,e::m=>by
  simp only[Op.bytesLess,aez,nq,Gz l m];have c:decide (a<e)=ae0 a.toNat e.toNat:=by rw[afy];simp[ae0,UInt8.lt_iff_toNat_lt];omega
  have d:(a==e)=aeF a.toNat e.toNat:=by rw[afy];simp only[beq_iff_eq,Nat.beq_eq];exact⟨λh=>by rw[h],Gx⟩
  rw[c,d]
theorem CR:∀(l m:List Nat),(nq l m||ie l m)=!nq m l
 |[],[]=>rfl
 |_::_,[]=>rfl
 |[],_::_=>rfl
 |a::l,f::m=>by
  simp only[nq,ie];have:=CR l m;rcases Nat.lt_trichotomy a f with h|h|h
  .have c:ae0 a f=true:=by simp[ae0];omega
   have e:ae0 f a=false:=by rw[Bool.eq_false_iff];simp[ae0];omega
   have d:aeF f a=false:=by rw[Bool.eq_false_iff];simp;omega
   simp[c,e,d]
  .subst h;have c:ae0 a a=false:=by rw[Bool.eq_false_iff];simp[ae0]
   have d:aeF a a=true:=aC;simp[c,d,this]
  have c:ae0 a f=false:=by rw[Bool.eq_false_iff];simp[ae0];omega
  have e:ae0 f a=true:=by simp[ae0];omega
  have d:aeF a f=false:=by rw[Bool.eq_false_iff];simp;omega
  simp[c,e,d]
theorem NW(s t:ByteArray):(s++t).data.toList=s.data.toList++t.data.toList:=by have:(s++t).data=s.data++t.data:=ByteArray.data_append;rw[this];simp
theorem NX(op:BinOp)(t:TypeId)(x y:Operand)(m n:ByteArray)(w:World):(eqGuard op t x y (.string m) (.string n)).run P w=.ok () w:=by unfold eqGuard;split<;>simp
theorem NY(h:cO P b ρ H w nt aa a){op:BinOp}{t A:TypeId}{x y:Operand}(p:o.op=.binOp op t x y A)(hu:P.underlying t=some .string)(r:bG P nt o=some ao)(he:aE ao aa H=some (v,H')):bo P b ρ w (execOp a.eval o) v H':=by
 have n:∃g i,eB P nt x=some g/\eB P nt y=some i/\ao=.km op g i:=by cases op<;>simp only[bG,p,eY,hu,aep,afY,aaw,aet,aas]at r<;>(obtain⟨g,h1,i,h2,h3⟩:=r;exact⟨g,i,h1,h2,h3.symm⟩)
 obtain⟨g,i,h1,h2,rfl⟩:=n;simp only[aE,aes,acn]at he;obtain⟨q,d,rfl,rfl⟩:=he;have u:=h.gv h1;have z:=h.gv h2;unfold uw at d;split at d
 .rename_i l m B C;rw[B]at u;rw[C]at z;obtain⟨s,hs,D⟩:=u.ky;obtain⟨j,k,E⟩:=z.ky;have e:Op.bytesLess s.toList j.toList=nq l m:=by rw[ByteArray.toList_eq,ByteArray.toList_eq,Gz,hs,k]
  have f:(s.toList==j.toList)=ie l m:=by rw[Gy,hs,k]
  have key:∃c,(Op.stringOp op s j).run P w=.ok c w/\VR ρ q c:=by
   have J:s.size=l.length:=by rw[<-hs,aeR,afe];rfl
   have K:j.size=m.length:=by rw[<-k,aeR,afe];rfl
   cases op<;>simp only at d<;>(try cases d)
   .split at d
    .rename_i hb;injection d with d;subst d;refine⟨.string (s++j),?_,?_⟩
     .simp only[Op.stringOp];rw[ap];·rfl
      have:IntKind.i64.max=9223372036854775807:=bK;rw[this];omega
     simp only[VR];rw[NW,aeZ,hs,k]
    cases d
   .exact⟨_,rfl,by simp only[VR];exact f.symm⟩
   .exact⟨_,rfl,by simp only[VR];rw[f]⟩
   .exact⟨_,rfl,by simp only[VR];exact e.symm⟩
   .exact⟨_,rfl,by simp only[VR];rw[e,f,CR]⟩
   .exact⟨_,rfl,by simp only[VR];rw[e,f,CR];simp⟩
   exact⟨_,rfl,by simp only[VR];rw[e]⟩
  obtain⟨c,F,G⟩:=key;exact bo.val (c:=c) (w':=w) (by simp[execOp,p,D,E,NX,binOp,F]) (b9.bL h.I G)
 cases d
theorem NZ(h:cO P b ρ H w nt aa a){op:UnOp}{t:TypeId}{x:Operand}(i:o.op=.unOp op t x)(l:bG P nt o=some ao)(he:aE ao aa H=some (v,H')):bo P b ρ w (execOp a.eval o) v H':=by
 simp only[bG,i,aep,aaw,aet,aas]at l;obtain⟨m,h1,rfl⟩:=l;simp only[aE,aes,acn]at he;obtain⟨q,c,rfl,rfl⟩:=he;have e:=h.gv h1;unfold ux at c;split at c;·rename_i k n f;rw[f]at e;obtain⟨d,j,g⟩:=e.hZ;subst j;injection c with c;subst c;exact bo.val (c:=.int d (d.wrap (0 - n))) (w':=w) (by simp[execOp,i,g,Op.unary,Op.intArith]) (b9.bL h.I (by simp[VR,sO]))
 .rename_i k n f;rw[f]at e;obtain⟨d,j,g⟩:=e.hZ;subst j;simp only[eT,oV,aas]at c;subst c;refine bo.val (c:=.int d (d.wrap (afr d.bits (if d.signed then -1 else d.max)^^^afr d.bits n).toNat)) (w':=w) (by simp[execOp,i,g,Op.unary,Op.intBits]) (b9.bL h.I ?_);simp only[VR,ko];simp[oV]
 .rename_i p f;rw[f]at e;have g:=e.nK;injection c with c;subst c;exact bo.val (c:=.bool (!p)) (w':=w) (by simp[execOp,i,g,Op.unary]) (b9.bL h.I (by simp[VR]))
 cases c
theorem N0(h:cO P b ρ H w nt aa a){t:TypeId}{x:Operand}(i:o.op=.makeInterface t x)(c:bG P nt o=some ao)(he:aE ao aa H=some (v,H')):bo P b ρ w (execOp a.eval o) v H':=by
 simp only[bG,i,aep,aaw]at c;obtain⟨d,hd,c⟩:=c;have key:(∀m,d≠.interface m)/\∃f,eB P nt x=some f/\ao=.sA t f:=by cases d<;>simp only[bc,abu,bA,aaw,aet,aas]at c<;>first|(cases c;done)|(obtain⟨f,h1,h2⟩:=c;exact⟨(λm e=>by cases e),f,h1,h2.symm⟩)
 obtain⟨g,f,h1,rfl⟩:=key;simp only[aE,aas,acn]at he;obtain⟨rfl,rfl⟩:=he;refine bo.val (c:=.iface t (a.eval x)) (w':=w) ?_ (b9.bL h.I (by simp only[VR];exact⟨trivial,h.gv h1⟩));simp only[execOp,i,Instr.makeInterface,Sem.run_bind,bJ hd,Result.andThen_ok];cases d<;>first|(exact absurd rfl (g _))|rfl
theorem N1(h:cO P b ρ H w nt aa a){f:FuncId}{x y:Array Operand}(c:o.op=.makeFunc (.func f) x y)(d:bG P nt o=some ao)(he:aE ao aa H=some (v,H')):bo P b ρ w (execOp a.eval o) v H':=by simp only[bG,c,qV,aep,aaw,aet,aas]at d;obtain⟨l,h1,m,h2,rfl⟩:=d;simp only[aE,aas,acn]at he;obtain⟨rfl,rfl⟩:=he;refine bo.val (c:=.func (.func f) (x.map a.eval) (y.map a.eval)) (w':=w) (by simp[execOp,c,Instr.makeFunc]) (b9.bL h.I ?_);simp only[VR,Array.toList_map];exact⟨trivial,uT h.E h.I h1,uT h.E h.I h2⟩
theorem N2(h:cO P b ρ H w nt aa a){t:TypeId}(c:o.op=.makeMap t none)(d:bG P nt o=some ao)(he:aE ao aa H=some (v,H')):bo P b ρ w (execOp a.eval o) v H':=by simp only[bG,c,aet,aas]at d;subst d;simp only[aE,aas,acn]at he;obtain⟨rfl,rfl⟩:=he;obtain⟨e,f,g⟩:=h.I.alloc (o:=.map [] 0) (ob:=.map #[] 0) (0,0) (by simp[ef]) aC rfl (by simp[OR,bf,gZ.empty]);exact bo.val (c:=.map (some w.heap.size)) (w':={w with heap:=w.heap.push (.map #[] 0)}) (by simp[execOp,c,Instr.makeMap]) ⟨_,e,by simp only[VR];exact aQ.dW ..,f,g⟩
theorem qY{l:List AV}{cs:Array Value}(hl:aR ρ l cs.toList){t:TypeId}{g:Bool}{off s:Nat}(hg:lu P t=some g)(hs:dV P t=some s){q:AV}(d:nu g l off s=some q):∃c,(part t cs off).run P w=.ok c w/\VR ρ q c:=by
 unfold nu at d;cases g with
 |true=>
  simp only[bc,aas]at d;subst d;refine⟨.agg (cs.extract off (off+s)),by simp[part,xx hg,gN hs],?_⟩;simp only[VR];have:(cs.extract off (off+s)).toList=(cs.toList.drop off).take s:=by rw[Array.toList_extract,List.extract_eq_drop_take];simp
  rw[this];exact aR.take s (aR.drop off hl)
 |false=>simp only[abu,bA,List.head?_drop]at d;obtain⟨c,h1,h2⟩:=aR.get hl off q d;exact⟨c,by simp at h1;simp[part,xx hg,h1],h2⟩
theorem N3(h:cO P b ρ H w nt aa a){t:TypeId}{x:Operand}{i:Nat}(m:o.op=.field t x i)(e:bG P nt o=some ao)(he:aE ao aa H=some (v,H')):bo P b ρ w (execOp a.eval o) v H':=by
 simp only[bG,m,aep,aaw]at e;obtain⟨d,hd,e⟩:=e;split at e
 .rename_i A;simp only[aaw,aet,aas]at e;obtain⟨f,p,g,hg,s,hs,B,h1,rfl⟩:=e;simp only[aE]at he;have n:=h.gv h1;split at he;·rename_i l r;simp only[aes,acn]at he;obtain⟨q,u,rfl,rfl⟩:=he;rw[r]at n;obtain⟨cs,j,y⟩:=n.oU;obtain⟨c,z,k⟩:=qY (P:=P) (w:=w) j hg hs u;exact bo.val (c:=c) (w':=w) (by simp[execOp,m,Instr.field,bJ hd,p,y,asAgg,z]) (b9.bL h.I k)
  cases he
 cases e
theorem N4(h:cO P b ρ H w nt aa a){t:TypeId}{x:Operand}{i:Nat}(g:o.op=.fieldAddr t x i)(c:bG P nt o=some ao)(he:aE ao aa H=some (v,H')):bo P b ρ w (execOp a.eval o) v H':=by
 simp only[bG,g,aep,aaw]at c;obtain⟨d,hd,c⟩:=c;split at c
 .rename_i n;simp only[aaw]at c;obtain⟨f,k,s,hs,c⟩:=c;split at c;·cases c
  rename_i e;simp only[aaw,aet,aas]at c;obtain⟨p,h1,rfl⟩:=c;simp only[aE]at he;have j:=h.gv h1;split at he;·rename_i id off l;simp only[aas,acn]at he;obtain⟨rfl,rfl⟩:=he;rw[l]at j;obtain⟨q,z,hb,m⟩:=j.kT;refine bo.val (c:=.pointer (some ⟨q,z+off+f.offset,none⟩)) (w':=w) ?_ (b9.bL h.I (by simp only[VR];exact⟨q,z,hb,by simp[afU]⟩));simp[execOp,g,Instr.fieldAt,bJ hd,k,m,Instr.sureAddr,fieldPlace,gN hs,e,pT]
  cases he
 cases c
theorem N5(h:cO P b ρ H w nt aa a){x:Operand}{i:Nat}(f:o.op=.extract x i)(g:bG P nt o=some ao)(he:aE ao aa H=some (v,H')):bo P b ρ w (execOp a.eval o) v H':=by
 simp only[bG,f,aep,aaw,aet,aas]at g;obtain⟨t,h1,rfl⟩:=g;simp only[aE]at he;have j:=h.gv h1;split at he
 .rename_i l n;simp only[aes,acn]at he;obtain⟨q,k,rfl,rfl⟩:=he;rw[n]at j;obtain⟨cs,d,p⟩:=j.NI;have e:∀(l:List AV)(i:Nat),kO l i=l[i]?:=by intro l;induction l with|nil=>intro i;simp[kO]|cons y l r=>intro i;cases i with|zero=>simp[kO]|succ i=>simp[kO,r]
  rw[e]at k;obtain⟨c,m,s⟩:=aR.get d i q k;exact bo.val (c:=c) (w':=w) (by simp at m;simp[execOp,f,p,Instr.extract,m]) (b9.bL h.I s)
 cases he
end
section
variable{P:Program}{b:bS}{ρ:aQ}{H H':ai}{w:World}{nt:Nat}{aa:am AV}{a:Act}{o:Oper}{ao:bC}{v:AV}
theorem N6(h:cO P b ρ H w nt aa a){t:TypeId}{x i:Operand}(p:o.op=.indexAddr t x i)(c:bG P nt o=some ao)(he:aE ao aa H=some (v,H')):bo P b ρ w (execOp a.eval o) v H':=by
 simp only[bG,p,aep,aaw]at c;obtain⟨d,hd,c⟩:=c;split at c
 .rename_i n e;simp only[aaw,aet,aas]at c;obtain⟨s,hs,u,h1,y,h2,rfl⟩:=c;simp only[aE]at he;have g:=h.gv h1;have l:=h.gv h2;split at he
  .rename_i id off k j q hj;split at he
   .rename_i f;simp only[aas,acn]at he;obtain⟨rfl,rfl⟩:=he;rw[q]at g;rw[hj]at l;obtain⟨J,z,hb,r⟩:=g.kT;obtain⟨A,_,hi⟩:=l.hZ;have m:j<n:=by simpa[ae0,Nat.succ_le_iff]using f
    refine bo.val (c:=.pointer (some ⟨J,z+off+j*s,none⟩)) (w':=w) ?_ (b9.bL h.I (by simp only[VR];exact⟨J,z,hb,by simp[afU]⟩));simp[execOp,p,Instr.indexAt,hi,asIntOf,bJ hd,r,Instr.sureAddr,gN hs,pT];omega
   cases he
  cases he
 .rename_i e;simp only[aaw,aet,aas]at c;obtain⟨s,hs,u,h1,y,h2,rfl⟩:=c;simp only[aE]at he;have g:=h.gv h1;have l:=h.gv h2;split at he
  .rename_i id off len cap ex k j q hj;split at he
   .rename_i f;simp only[aas,acn]at he;obtain⟨rfl,rfl⟩:=he;rw[q]at g;rw[hj]at l;obtain⟨ad,C,r,D,E,F,J,z,hb,B,G⟩:=g.lx;obtain⟨A,_,hi⟩:=l.hZ;have m:j<len:=by simpa[ae0,Nat.succ_le_iff]using f
    have:=B ab;subst this;refine bo.val (c:=.pointer (some ⟨J,z+off+j*s,none⟩)) (w':=w) ?_ (b9.bL h.I (by simp only[VR];exact⟨J,z,hb,by simp[afU]⟩));simp[execOp,p,Instr.indexAt,hi,asIntOf,bJ hd,r,gN hs,pT];omega
   cases he
  cases he
 cases c
theorem GA:∀(l:List Nat)(i:Nat),sF l i=l[i]?|[],i=>by simp[sF]|a::l,0=>by simp[sF]|a::l,i+1=>by simp[sF,GA l i]
theorem N7(h:cO P b ρ H w nt aa a){t:TypeId}{x i:Operand}(z:o.op=.index t x i)(f:bG P nt o=some ao)(he:aE ao aa H=some (v,H')):bo P b ρ w (execOp a.eval o) v H':=by
 simp only[bG,z,aep,aaw]at f;obtain⟨d,hd,f⟩:=f;split at f
 .rename_i n e;simp only[aaw,aet,aas]at f;obtain⟨g,hg,s,hs,K,h1,L,h2,rfl⟩:=f;simp only[aE]at he;have m:=h.gv h1;have p:=h.gv h2;split at he
  .rename_i l k j A hj;split at he
   .rename_i D;simp only[aes,acn]at he;obtain⟨q,M,rfl,rfl⟩:=he;rw[A]at m;rw[hj]at p;obtain⟨cs,E,B⟩:=m.oU;obtain⟨N,_,hi⟩:=p.hZ;have r:j<n:=by simpa[ae0,Nat.succ_le_iff]using D
    obtain⟨c,O,F⟩:=qY (P:=P) (w:=w) E hg hs M;refine bo.val (c:=c) (w':=w) ?_ (b9.bL h.I F);simp[execOp,z,Instr.index,hi,asIntOf,bJ hd,B,gN hs,r,O]
   cases he
  cases he
 .simp only[aaw,aet,aas]at f;obtain⟨K,h1,L,h2,rfl⟩:=f;simp only[aE]at he;have m:=h.gv h1;have p:=h.gv h2;split at he
  .rename_i s k j A hj;simp only[aes,acn]at he;obtain⟨q,⟨n,y,rfl⟩,rfl,rfl⟩:=he;rw[A]at m;rw[hj]at p;obtain⟨C,Q,B⟩:=m.ky;obtain⟨N,_,hi⟩:=p.hZ;rw[GA,<-Q,ae5,aes]at y;obtain⟨u,hu,y⟩:=y;have G:C[j]?=some u:=by
    have:j<C.size:=by have:=ae7.1 hu;obtain⟨J,_⟩:=this;simpa using J
    rw[getElem?_pos C j this];have e:=ae7.1 hu;obtain⟨J,R⟩:=e;rw[<-R];rfl
   refine bo.val (c:=.int .u8 u.toNat) (w':=w) ?_ (b9.bL h.I (by simp[VR,kc,<-y]));simp[execOp,z,Instr.index,hi,asIntOf,bJ hd,B,G]
  cases he
 cases f
theorem zK{x:AV}{c:Value}(g:VR ρ x c){y f n:Nat}(h:lS x y=some n)(j:y<=f)(code:Go.BoundsCode)(w:World):(Instr.sliceBound c f code).run P w=.ok n w/\n<=y:=by
 unfold lS at h;split at h
 .rename_i k i;split at h;·rename_i e;injection h with h;subst h;obtain⟨l,_,rfl⟩:=g.hZ;have d:i<=y:=aeG e;refine⟨?_,d⟩;simp[Instr.sliceBound,asIntOf];omega
  cases h
 cases h
theorem N8{d:Type}(c:Prop) [Decidable c](x y:d):(if c then some x else some y)=some (if c then x else y):=by split<;>rfl
theorem zL(h:cO P b ρ H w nt aa a){lo hi mx:Option Operand}{t u omx:Option aK}(h1:ku P nt lo=some t)(h2:ku P nt hi=some u)(h3:ku P nt mx=some omx){len cap cap' m d l:Nat}(r:gM aa omx cap cap=some m)(n:gM aa u len m=some d)(s:gM aa t 0 d=some l)(i:cap<=cap')(D:mx.isSome=true->hi.isSome=true)(A:mx=none->hi=none->len<=cap)(c:Bool):(Instr.sliceBounds c len cap' (lo.map a.eval) (hi.map a.eval) (mx.map a.eval)).run P w=.ok (l,d,if mx.isSome then m else cap') w/\l<=d/\(d<=m)/\m<=cap/\(mx=none->m=cap):=by
 have E:∀{x:Option Operand}{F:Option aK},ku P nt x=some F->(x=none/\F=none)\/∃y e,x=some y/\F=some e/\VR ρ (gv aa e) (a.eval y):=by intro x F G;cases x with|none=>simp only[ku,aas]at G;exact .inl ⟨rfl,G.symm⟩|some y=>simp only[ku,aes]at G;obtain⟨e,K,rfl⟩:=G;exact .inr ⟨y,e,rfl,rfl,h.gv K⟩
 have L:∃p,(match mx.map a.eval with|some v=>Instr.sliceBound v cap' (if c then .slice3Acap else .slice3Alen)|none=>pure cap':Sem Nat).run P w=.ok p w/\(p=if mx.isSome then m else cap')/\m<=cap/\m<=p/\(mx=none->m=cap):=by
  rcases E h3 with⟨rfl,rfl⟩|⟨y,e,rfl,rfl,q⟩;·simp only[gM,aas]at r;subst r;exact⟨cap',aC,aC,aeq _,i,λ_=>rfl⟩
  simp only[gM]at r;obtain⟨f,g⟩:=zK (P:=P) q r i (if c then .slice3Acap else .slice3Alen) w;exact⟨m,by simpa using f,aC,g,aeq _,aC⟩
 obtain⟨p,N,I,B,j,k⟩:=L;have J:∃code,d<=m/\((match hi.map a.eval,mx.map a.eval with|some v,some _=>Instr.sliceBound v p .slice3B|some v,none=>Instr.sliceBound v p code|none,none=>pure len|none,some _=>stuck "Slice: max without high" :Sem Nat).run P w=.ok d w)/\code=(if c then .sliceAcap else .sliceAlen):=by
  refine⟨if c then .sliceAcap else .sliceAlen,?_⟩;rcases E h2 with⟨rfl,rfl⟩|⟨y,e,rfl,rfl,q⟩;·simp only[gM,aas]at n;subst n;cases mx with|none=>refine⟨?_,aC,rfl⟩;rw[k rfl];exact A rfl rfl|some y=>simp at D
  simp only[gM]at n;cases mx with|none=>obtain⟨f,g⟩:=zK (P:=P) q n j (if c then .sliceAcap else .sliceAlen) w;exact⟨g,by simpa using f,rfl⟩|some z=>obtain⟨f,g⟩:=zK (P:=P) q n j .slice3B w;exact⟨g,by simpa using f,rfl⟩
 obtain⟨code,M,O,rfl⟩:=J;have C:l<=d/\(match lo.map a.eval with|some v=>Instr.sliceBound v d (if mx.isSome then .slice3C else .sliceB)|none=>pure 0:Sem Nat).run P w=.ok l w:=by
  rcases E h1 with⟨rfl,rfl⟩|⟨y,e,rfl,rfl,q⟩;·simp only[gM,aas]at s;subst s;exact⟨ab,aC⟩
  simp only[gM]at s;obtain⟨f,g⟩:=zK (P:=P) q s (aeq _) (if mx.isSome then .slice3C else .sliceB) w;exact⟨g,by simpa using f⟩
 refine⟨?_,C.1,M,B,k⟩;rw[<-I];obtain⟨_,Q⟩:=C;clear h h1 h2 h3 r n s E B j k A i;cases mx<;>cases hi<;>cases lo<;>simp_all[Instr.sliceBounds]
theorem N9(j:bh P b ρ H w){id:af}{u z e s:Nat}(hb:ρ id=some (u,z))(h:oN H id e=true)(hs:dV P e=some s):(ρ.k u).2=s:=by
 unfold oN at h;split at h
 .rename_i c n q p aM fz hi;have he:=aey h;subst he;have f:H.get id≠.none:=by rw[hi];simp
  obtain⟨r,t,l,d,_,i,g⟩:=j.be f;rw[hb]at d;injection d with d;injection d with d m;subst d;subst m;have:=j.im id u z l f hb i;rw[hi]at this g;cases l<;>simp only[OR]at g;simp only[ef]at this;rw[this];simp[hs]
 cases h
theorem N'(h:cO P b ρ H w nt aa a){t:TypeId}{x:Operand}{lo hi mx:Option Operand}(J:o.op=.slice t x lo hi mx)(c:bG P nt o=some ao)(he:aE ao aa H=some (v,H')):bo P b ρ w (execOp a.eval o) v H':=by
 simp only[bG,J,aep,aaw]at c;obtain⟨d,hd,c⟩:=c;split at c
 .rename_i n e;split at c;·cases c
  rename_i W;simp only[aaw,aet,aas]at c;obtain⟨s,hs,ox,h1,D,h2,M,h3,omx,u,rfl⟩:=c;simp only[aE]at he;have g:=h.gv h1;split at he
  .rename_i id off A;simp only[aep,aaw,aas,acn]at he;obtain⟨m,K,i,B,l,j,rfl,rfl⟩:=he;rw[A]at g;obtain⟨ax,z,hb,C⟩:=g.kT;obtain⟨k,S,T,V,L⟩:=zL h h2 h3 u K B j (aeq n) (λh=>by cases hi<;>simp_all) (λ_ _=>aeq _) false;have X:(if mx.isSome then m else n)=m:=by cases mx with|none=>simp[L rfl]|some y=>simp
   rw[X]at k;refine bo.val (c:=.slice (some (if m=l then⟨ax,z+off,none⟩else(⟨ax,z+off,none⟩:Addr).add (l*s))) (i - l) (m - l)) (w':=w) ?_ (b9.bL h.I ?_);·simp only[execOp,J,Instr.sliceAt,Sem.run_bind,bJ hd,Result.andThen_ok,C,Instr.sureAddr,Sem.run_pure,k,gN hs]
   simp only[VR];refine⟨trivial,ab,aeq _,λ_=>trivial,ax,z,hb,λp=>?_,λh=>by cases h⟩;rw[ap ab,ap ab,pT,afU]
  cases he
 .rename_i e;split at c;·cases c
  rename_i W;simp only[aaw]at c;obtain⟨s,hs,c⟩:=c;split at c;·cases c
  simp only[aaw,aet,aas]at c;obtain⟨ox,h1,D,h2,M,h3,omx,u,rfl⟩:=c;simp only[aE]at he;have g:=h.gv h1;have E:mx.isSome=true->hi.isSome=true:=λh=>by cases hi<;>simp_all
  split at he;·rename_i A;simp only[aep,aaw,aas,acn]at he;obtain⟨m,K,i,B,l,j,rfl,rfl⟩:=he;rw[A]at g;have C:=g.kz;obtain⟨k,S,T,V,L⟩:=zL h h2 h3 u K B j (aeq 0) E (λ_ _=>aeq _) true;have Y:m=0:=ab;have Z:i=0:=ab;have ag:l=0:=ab;subst Y;subst Z;subst ag;refine bo.val (c:=.slice none 0 0) (w':=w) ?_ (b9.bL h.I (by simp[VR]));simp only[execOp,J,Instr.sliceAt,Sem.run_bind,bJ hd,Result.andThen_ok,C,Instr.slice,k,gN hs];cases mx<;>simp
  .rename_i id off len cap ex A;simp only[aep,aaw,aas,acn]at he;obtain⟨m,K,i,B,l,j,he⟩:=he;split at he;case isFalse=>cases he
   rename_i F;simp only[aas,acn]at he;obtain⟨rfl,rfl⟩:=he;rw[A]at g;obtain⟨ad,Q,C,q1,q2,q3,ax,z,hb,q4,q5⟩:=g.lx;obtain⟨k,S,T,V,L⟩:=zL h h2 h3 u K B j q2 E (λ_ _=>q1) true;refine bo.val (c:=.slice (some (if(if mx.isSome then m else Q)=l then ad else ad.add (l*s))) (i - l) ((if mx.isSome then m else Q) - l)) (w':=w) ?_ (b9.bL h.I ?_);·simp only[execOp,J,Instr.sliceAt,Sem.run_bind,bJ hd,Result.andThen_ok,C,Instr.slice,k,gN hs];simp only[aeT];rw[N8];simp
   simp only[VR];cases mx with
   |none=>
    have:=L rfl;subst this;simp only[ku,aas]at u;subst u;refine⟨trivial,ab,by simp;omega,λf=>?_,ax,z,hb,λp=>?_,λf=>?_⟩;rotate_left 2
    .simp only[Option.isSome_none,Bool.or_false,abu,bA]at f F⊢;subst f;have h6:=q5 rfl;simp only[Bool.false_or,afm,Nat.beq_eq_true_eq,Bool.false_and,abu,bA]at F⊢;rcases F with h0|h0
     .have h0:l=0:=by cases N:D with|none=>rw[N]at j;simpa[gM]using j.symm|some q=>rw[N]at h0;simp at h0
      subst h0;simpa using h6
     have av:=N9 h.I hb h0 hs;rw[av]at h6⊢;have:l*s+(Q - l)*s=Q*s:=by rw[<-agh];congr 1;omega
     omega
    .simp at f⊢;rw[q3 f]
    simp only[Option.isSome_none,abu,bA]at p⊢;have G:=q4 ab;subst G;rw[ap ab,ap (by intro r;simp only[aew,decide_eq_true_eq]at r;have:=q3 r.1;omega),pT,afU]
   |some y=>simp only[ku,aes]at u;obtain⟨oy,_,rfl⟩:=u;refine⟨trivial,ab,aC,λ_=>by simp,ax,z,hb,λp=>?_,λh=>by simp at h⟩;simp only[Option.isSome_some,bc]at p⊢;have G:=q4 ab;subst G;rw[ap ab,ap (by intro r;simp only[aew,decide_eq_true_eq]at r;omega),pT,afU]
  cases he
 .split at c;·cases c
  rename_i E;simp only[aaw,aet,aas]at c;obtain⟨ox,h1,D,h2,M,h3,rfl⟩:=c;have O:mx=none:=by cases mx<;>simp_all
  subst O;simp only[aE]at he;have g:=h.gv h1;split at he
  .rename_i s A;simp only[aep,aaw,aas,acn]at he;obtain⟨i,B,l,j,rfl,rfl⟩:=he;rw[A]at g;obtain⟨R,ht,C⟩:=g.ky;have aw:R.size=s.length:=by rw[<-ht,aeR,afe];rfl
   obtain⟨k,S,T,V,L⟩:=zL (mx:=none) (omx:=none) h h2 h3 rfl (m:=s.length) (cap:=s.length) (cap':=s.length) rfl B j (aeq _) aC (λ_ _=>aeq _) false;refine bo.val (c:=.string (R.extract l i)) (w':=w) ?_ (b9.bL h.I ?_);·simp only[execOp,J,Instr.sliceAt,Sem.run_bind,bJ hd,Result.andThen_ok,C,Instr.slice,Option.map_none,Option.isSome_none,abu,bA];simp only[Option.map_none]at k;rw[aw];simp[k]
   simp only[VR];rw[show(R.extract l i).data.toList=(R.data.toList.drop l).take (i - l)by rw[ByteArray.data_extract,Array.toList_extract,List.extract_eq_drop_take]];rw[List.map_take,List.map_drop,ht]
  cases he
 cases c
end
section
variable{P:Program}{b:bS}{ρ:aQ}{H H':ai}{w:World}{nt:Nat}{aa:am AV}{a:Act}{o:Oper}{ao:bC}{v:AV}
theorem qZ{c:Call}{f:Builtin}(e:o.op=.call c)(hb:c.callee=.builtin f)(w:World):∃d,(execOp a.eval o).run P w=(builtin f c.argTypes o.type d (c.args.map a.eval)).run P w:=by exact⟨_,by simp only[execOp,e,resolve,hb,Sem.run_bind,Sem.run_pure,Result.andThen_ok,invoke];rfl⟩
theorem GB{c:Call}{i:Nat}{x:aK}(h:(c.args[i]?).bind (eB P nt)=some x):∃y,c.args[i]?=some y/\eB P nt y=some x/\(c.args.map a.eval)[i]?=some (a.eval y):=by rw[aaw]at h;obtain⟨y,h1,h2⟩:=h;exact⟨y,h1,h2,by simp[h1]⟩
theorem VR.goInt(ρ:aQ)(n:Nat):VR ρ (.int 3 (.ofNat n)) (goInt n):=by simp[VR,Go.goInt,kc]
theorem bf.length:∀{l:List aV}{m:List MapEntry},bf ρ l m->l.length=m.length|[],[],_=>rfl|_::_,_::_,h=>by simp only[bf]at h;simp[bf.length h.2.2.2]|[],_::_,h=>by simp[bf]at h|_::_,[],h=>by simp[bf]at h
theorem nM(i:bh P b ρ H w){id:af}{es:List aV}{c:Nat}(g:H.get id=.map es c){n:Nat}(hb:ρ id=some (n,0)):∃bi:Array MapEntry,w.heap[n]?=some (.map bi c)/\bf ρ es bi.toList:=by obtain⟨m,x,j,e,hl,f,d⟩:=i.be (i:=id) (by rw[g];simp);rw[hb]at e;injection e with e;injection e with k l;subst k;subst l;rw[g]at d;cases j<;>simp only[OR]at d;obtain⟨_,rfl,_,h⟩:=d;exact⟨_,f,h⟩
theorem sP(h:bh P b ρ H w){id:af}{es:List aV}{f:Nat}(g:H.get id=.map es f){p:Nat}(hb:ρ id=some (p,0)){bi:Array MapEntry}{k:Nat}(i:w.heap[p]?=some (.map bi k)):gZ bi k:=by obtain⟨m,x,n,e,hl,c,d⟩:=h.be (i:=id) (by rw[g];simp);rw[hb]at e;injection e with e;injection e with j l;subst j;subst l;rw[g,]at d;rw[i]at c;injection c with c;subst c;simp only[OR]at d;exact d.2.2.1
theorem co.length:∀{l:List aV}{m:List MapEntry},co ρ l m->l.length=m.length|[],[],_=>rfl|_::_,_::_,h=>by simp only[co]at h;simp[co.length h.2.2]|[],_::_,h=>by simp[co]at h|_::_,[],h=>by simp[co]at h
theorem Oa(h:bh P b ρ H w){id:af}{es:List aV}(g:H.get id=.dt es){n:Nat}(hb:ρ id=some (n,0)):∃(bi:Array MapEntry)(d:Nat)(l:List MapEntry),w.heap[n]?=some (.map bi d)/\l.Perm bi.toList/\co ρ es l:=by obtain⟨m,x,i,e,hl,f,c⟩:=h.be (i:=id) (by rw[g];simp);rw[hb]at e;injection e with e;injection e with j k;subst j;subst k;rw[g]at c;cases i<;>simp only[OR]at c;obtain⟨_,_,l,h1,h2⟩:=c;exact⟨_,_,l,f,h1,h2⟩
theorem kU{d:Nat}{bi:Array MapEntry}{c:Nat}(h:w.heap[d]?=some (.map bi c)):(getObj d).run P w=.ok (.map bi c) w:=by simp[getObj,Sem.run,h]
theorem Ob(h:cO P b ρ H w nt aa a){c:Call}(E:o.op=.call c)(hb:c.callee=.builtin .len)(f:bG P nt o=some ao)(he:aE ao aa H=some (v,H')):bo P b ρ w (execOp a.eval o) v H':=by
 simp only[bG,E,hb,aep,aaw]at f;obtain⟨t,k,d,hd,f⟩:=f;obtain⟨r,g⟩:=qZ (P:=P) (a:=a) E hb w;split at f;·rename_i n e;rw[aaw]at f;obtain⟨x,i,f⟩:=f;injection f with f;subst f;obtain⟨y,_,_,j⟩:=GB (a:=a) i;simp only[aE,aas,acn]at he;obtain⟨rfl,rfl⟩:=he;refine bo.val (c:=goInt n) (w':=w) ?_ (b9.bL h.I (VR.goInt ρ n));rw[g];simp[builtin,Builtin.len_,k,j,bJ hd]
 .rename_i e;rw[aaw]at f;obtain⟨L,A,f⟩:=f;split at f;·rename_i n M;rw[aaw]at f;obtain⟨x,i,f⟩:=f;injection f with f;subst f;obtain⟨y,_,_,j⟩:=GB (a:=a) i;simp only[aE,aas,acn]at he;obtain⟨rfl,rfl⟩:=he;refine bo.val (c:=goInt n) (w':=w) ?_ (b9.bL h.I (VR.goInt ρ n));rw[g];simp[builtin,Builtin.len_,k,j,bJ hd,bJ A]
  cases f
 all_goals(try(cases f;done))
 all_goals
  simp only[aaw,aet,aas]at f;obtain⟨x,⟨G,B,C⟩,rfl⟩:=f;have j:(c.args.map a.eval)[0]?=some (a.eval G):=by simp[B]
  have m:=h.gv C;simp only[aE]at he;split at he<;>(try(cases he;done))<;>rename_i J<;>rw[J]at m
 .simp only[aas,acn]at he;obtain⟨rfl,rfl⟩:=he;obtain⟨F,D,i⟩:=m.ky;refine bo.val (c:=goInt F.size) (w':=w) ?_ (b9.bL h.I ?_);·rw[g];simp[builtin,Builtin.len_,k,j,bJ hd,i]
  rw[<-D,aeR,afe];exact VR.goInt ρ F.size
 .simp only[aas,acn]at he;obtain⟨rfl,rfl⟩:=he;obtain⟨ad,N,i,_⟩:=m.lx;refine bo.val (c:=goInt _) (w':=w) ?_ (b9.bL h.I (VR.goInt ρ _));rw[g];simp[builtin,Builtin.len_,k,j,bJ hd,i]
 .simp only[aas,acn]at he;obtain⟨rfl,rfl⟩:=he;have i:=m.kz;refine bo.val (c:=goInt 0) (w':=w) ?_ (b9.bL h.I (VR.goInt ρ 0));rw[g];simp[builtin,Builtin.len_,k,j,bJ hd,i]
 .simp only[aas,acn]at he;obtain⟨rfl,rfl⟩:=he;have i:=m.pV;refine bo.val (c:=goInt 0) (w':=w) ?_ (b9.bL h.I (VR.goInt ρ 0));rw[g];simp[builtin,Builtin.len_,k,j,bJ hd,i]
 split at he
 .rename_i es q s;simp only[aas,acn]at he;obtain⟨rfl,rfl⟩:=he;obtain⟨O,p,i⟩:=m.ly;obtain⟨bi,u,z⟩:=nM h.I s p;refine bo.val (c:=goInt bi.size) (w':=w) ?_ (b9.bL h.I ?_);·rw[g];simp[builtin,Builtin.len_,k,j,bJ hd,i,kU u]
  rw[bf.length z,afe];exact VR.goInt ρ bi.size
 .rename_i es s;simp only[aas,acn]at he;obtain⟨rfl,rfl⟩:=he;obtain⟨O,p,i⟩:=m.ly;obtain⟨bi,q,l,u,z,K⟩:=Oa h.I s p;refine bo.val (c:=goInt bi.size) (w':=w) ?_ (b9.bL h.I ?_);·rw[g];simp[builtin,Builtin.len_,k,j,bJ hd,i,kU u]
  rw[co.length K,z.length_eq,afe];exact VR.goInt ρ bi.size
 cases he
theorem Oc(h:cO P b ρ H w nt aa a){c:Call}(m:o.op=.call c)(hb:c.callee=.builtin .cap)(e:bG P nt o=some ao)(he:aE ao aa H=some (v,H')):bo P b ρ w (execOp a.eval o) v H':=by
 simp only[bG,m,hb,aep,aaw]at e;obtain⟨t,n,d,hd,e⟩:=e;obtain⟨g,f⟩:=qZ (P:=P) (a:=a) m hb w;split at e
 .simp only[aaw,aet,aas]at e;obtain⟨x,⟨q,k,l⟩,rfl⟩:=e;have p:(c.args.map a.eval)[0]?=some (a.eval q):=by simp[k]
  have i:=h.gv l;simp only[aE]at he;split at he<;>(try(cases he;done))<;>rename_i r<;>rw[r]at i;·simp only[aas,acn]at he;obtain⟨rfl,rfl⟩:=he;obtain⟨ad,u,j,_,_,s,_⟩:=i.lx;have:=s rfl;subst this;refine bo.val (c:=goInt _) (w':=w) ?_ (b9.bL h.I (VR.goInt ρ _));rw[f];simp[builtin,Builtin.cap_,n,p,bJ hd,j]
  simp only[aas,acn]at he;obtain⟨rfl,rfl⟩:=he;have j:=i.kz;refine bo.val (c:=goInt 0) (w':=w) ?_ (b9.bL h.I (VR.goInt ρ 0));rw[f];simp[builtin,Builtin.cap_,n,p,bJ hd,j]
 cases e
theorem GC(e:Bool):∀(l:List AV)(m:List Value)(x:AV)(c:Value)(r:AV),VR ρ x c->aR ρ l m->uy e x l=some r->∃q,(m.foldlM (if e then Builtin.max2 else Builtin.min2) c).run P w=.ok q w/\VR ρ r q
 |[],[],x,c,r,t,_,h=>by simp only[uy,aas]at h;subst h;exact⟨c,aC,t⟩
 |y::l,d::m,x,c,r,t,hl,h=>by
  simp only[aR]at hl;unfold uy at h;split at h;·rename_i g;cases g
  .rename_i k n j f B g;split at h
   .rename_i C;injection g with D E;subst D;subst E;obtain⟨i,p,rfl⟩:=t.hZ;obtain⟨F,I,rfl⟩:=hl.1.hZ;have u:i=F:=sN (by have:=aey C;omega);subst u;have s:∃q,((if e then Builtin.max2 else Builtin.min2) (.int i n) (.int i f)).run P w=.ok q w/\VR ρ (.int k (if e then(if jz n f then f else n)else(if jz f n then f else n))) q:=by
     cases e;·refine⟨.int i (if f<n then f else n),by simp[Builtin.min2],?_⟩;simp[VR,p,lz]
     refine⟨.int i (if f>n then f else n),by simp[Builtin.max2],?_⟩;simp[VR,p,lz]
    obtain⟨q,z,A⟩:=s;obtain⟨G,h1,h2⟩:=GC e _ _ _ _ _ A hl.2 h;exact⟨G,by simp only[List.foldlM_cons,Sem.run_bind,z,Result.andThen_ok];exact h1,h2⟩
   cases h
  cases h
 |[],_::_,_,_,_,_,hl,_=>by simp[aR]at hl
 |_::_,[],_,_,_,_,hl,_=>by simp[aR]at hl
theorem GD(h:cO P b ρ H w nt aa a){c:Call}{isMax:Bool}(r:o.op=.call c)(hb:c.callee=.builtin (if isMax then .max else .min))(s:bG P nt o=some ao)(he:aE ao aa H=some (v,H')):bo P b ρ w (execOp a.eval o) v H':=by
 have n:∃l,c.args.toList.mapM (eB P nt)=some l/\ao=.nk isMax l:=by cases isMax<;>simp only[bc,bA,abu]at hb<;>simp only[bG,r,hb,qV,aep,aaw,aet,aas]at s<;>(obtain⟨l,h1,h2⟩:=s;exact⟨l,h1,h2.symm⟩)
 obtain⟨l,h1,rfl⟩:=n;obtain⟨k,p⟩:=qZ (P:=P) (a:=a) r hb w;have g:=uT h.E h.I h1;simp only[aE]at he;split at he
 .rename_i x f hl;simp only[aes,acn]at he;obtain⟨q,t,rfl,rfl⟩:=he;rw[hl]at g;have e:(c.args.map a.eval).toList=c.args.toList.map a.eval:=aC;cases i:c.args.toList.map a.eval with
  |nil=>rw[i]at g;simp[aR]at g
  |cons d m=>
   rw[i]at g;simp only[aR]at g;obtain⟨u,j,y⟩:=GC (P:=P) (w:=w) isMax f m x d q g.1 g.2 t;refine bo.val (c:=u) (w':=w) ?_ (b9.bL h.I y);rw[p];cases isMax;·simp only[abu,bA,builtin,Builtin.min_,e,i]at j⊢;simp[j]
   simp only[bc,builtin,Builtin.max_,e,i]at j⊢;simp[j]
 cases he
end
section
variable{P:Program}{b:bS}{ρ:aQ}{H H':ai}{w:World}{nt:Nat}{aa:am AV}{a:Act}{o:Oper}{ao:bC}{v:AV}
theorem xz(c:List AV):∀n,(ep c n).length=n*c.length|0=>by simp[ep]|n+1=>by simp[ep,xz c n,Nat.succ_mul];omega
theorem GF(c:List AV):∀(n i:Nat),i<n*c.length->(ep c n)[i]?=c[i % c.length]?
 |0,i,h=>by omega
 |n+1,i,h=>by
  simp only[ep];by_cases hi:i<c.length;·rw[aeM hi,Nat.mod_eq_of_lt hi]
  rw[afn ab,GF c n _ (by rw[Nat.succ_mul]at h;omega)];congr 1;rw[<-Nat.mod_eq_sub_mod ab]
theorem zM{e:List AV}{cs:Array Value}(h:aR ρ e cs.toList)(n:Nat)(hs:e.length≠0):aR ρ (ep e n) ((ags (n*cs.size)).map (cs[·% cs.size]!)).toList:=by
 have hl:=aR.length h;simp only[afe]at hl;refine aR.CH (by simp[xz,hl]) ?_;intro i v c g j;have hi:i<n*e.length:=by
  rcases afg i (n*e.length)with h|h;·exact h
  rw[afH (by rw[xz];exact h)]at g;cases g
 rw[GF e n i hi]at g;obtain⟨d,hd,k⟩:=aR.get h _ v g;have f:i % cs.size<cs.size:=Nat.mod_lt _ ab;simp only[Array.toList_map,Array.toList_range,ae5,List.getElem?_range (show i<n*cs.size by rw[<-hl];exact hi),aeT,aas]at j;rw[hl]at hd;simp only[afi]at hd;rw[getElem!_pos cs (i % cs.size) f]at j;rw[getElem?_pos cs (i % cs.size) f]at hd;injection hd with hd;rw[hd]at j;subst j;exact k
theorem GG:∀(l:List Value)(cs:Array Value)(off j:Nat),(l.zipIdx j).foldl (λcs(p:Value×Nat)=>cs.setIfInBounds (off+p.2) p.1) cs=wr cs (off+j) l|[],cs,off,j=>rfl|v::l,cs,off,j=>by simp only[List.zipIdx_cons,List.foldl_cons,wr];rw[GG l _ off (j+1)];rfl
theorem CS:∀(off:Nat)(l f g:List AV)(cs d:List Value),ny l off f=some g->aR ρ l cs->aR ρ f d->off+d.length<=cs.length/\aR ρ g (cs.take off++d++cs.drop (off+d.length))
 |0,l,[],g,cs,[],h,hl,_=>by simp only[ny,aas]at h;subst h;simpa using hl
 |0,x::l,v::f,g,c::cs,m::d,h,hl,e=>by
  simp only[ny]at h;split at h;·rename_i k i;injection h with h;subst h;simp only[aR]at hl e;obtain⟨n,j⟩:=CS 0 l f k cs d i hl.2 e.2;refine⟨by simp at n⊢;omega,?_⟩;simp only[afE,afz,afk,aR,aeL,aeJ,agc]at j⊢;exact⟨e.1,j⟩
  cases h
 |off+1,x::l,f,g,c::cs,d,h,hl,e=>by
  simp only[ny]at h;split at h;·rename_i k i;injection h with h;subst h;simp only[aR]at hl;obtain⟨n,j⟩:=CS off l f k cs d i hl.2 e;refine⟨by simp;omega,?_⟩;rw[show off+1+d.length=(off+d.length)+1 by omega];simp only[afJ,afk,aR,agc];exact⟨hl.1,by simpa using j⟩
  cases h
 |off+1,[],f,g,_,_,h,_,_=>by simp[ny]at h
 |0,[],v::f,g,_,_,h,_,_=>by simp[ny]at h
 |0,_,[],_,_,_::_,_,_,e=>by simp[aR]at e
 |0,_,_::_,_,_,[],_,_,e=>by simp[aR]at e
 |0,_::_,_,_,[],_,_,hl,_=>by simp[aR]at hl
 |_+1,_::_,_,_,[],_,_,hl,_=>by simp[aR]at hl
theorem Od(l:List Value)(cs:Array Value)(off:Nat)(h:off+l.length<=cs.size):(wr cs off l).toList=cs.toList.take off++l++cs.toList.drop (off+l.length):=by
 apply List.ext_getElem?;intro j;rw[afi,xn l cs off j h];by_cases h1:j<off;·rw[ap ab,aeM (by simp;omega),aeM (by simp;omega),List.getElem?_take,aH h1];simp
 by_cases h2:j<off+l.length;·rw[aH ab,aeM (by simp;omega),afn (by simp;omega)];congr 1;simp;omega
 rw[ap ab,afn (by simp;omega),List.getElem?_drop];simp only[afi];congr 1;simp;omega
theorem zN(h:cO P b ρ H w nt aa a)(c:Nat->Option (Nat×Nat)):∀(dw:List (Nat×Operand))(l:List (Nat×Nat×aK))(g r:List AV)(cs:Array Value),dw.mapM (λp=>(c p.1).bind λq=>(eB P nt p.2).map λx=>(q.1,q.2,x))=some l->aR ρ g cs.toList->kp aa g l=some r->∃d,Instr.fill c cs (dw.map λp=>(p.1,a.eval p.2))=some d/\aR ρ r d.toList/\d.size=cs.size
 |[],l,g,r,cs,i,k,hl=>by simp at i;subst i;simp only[kp,aas]at hl;subst hl;exact⟨cs,rfl,k,rfl⟩
 |p::dw,l,g,r,cs,i,k,hl=>by
  simp only[agd,aep,aaw,aet,aas,aes]at i;obtain⟨t,⟨q,A,x,B,rfl⟩,C,m,rfl⟩:=i;simp only[kp]at hl;split at hl
  .rename_i e;simp only[aew,decide_eq_true_eq]at e;obtain⟨n,e⟩:=e;split at hl
   .rename_i u s;have j:=VR.cells (h.gv B) n;have f:=aR.length j;simp only[afe]at f;obtain⟨y,z⟩:=CS q.1 g (gv aa x).cells u cs.toList (a.eval p.2).cells.toList s k j;simp only[afe]at y;have D:=Od (a.eval p.2).cells.toList cs q.1 (by simpa using y);rw[<-D]at z;obtain⟨d,E,F,G⟩:=zN h c dw C u r _ m z hl;refine⟨d,?_,F,by rw[G,pU]⟩;simp only[aez,Instr.fill,A];rw[ap];·rw[<-Array.foldl_toList,Array.toList_zipIdx];have:=GG (a.eval p.2).cells.toList cs q.1 0;simp only[agl]at this;rw[this];exact E
    simp;omega
   cases hl
  cases hl
theorem Oe(h:cO P b ρ H w nt aa a){t:TypeId}{dw:Array (Nat×Operand)}(C:o.op=.build t dw)(j:bG P nt o=some ao)(he:aE ao aa H=some (v,H')):bo P b ρ w (execOp a.eval o) v H':=by
 simp only[bG,C,aep,aaw]at j;obtain⟨z,M,d,hd,j⟩:=j;obtain⟨zv,u,y,A⟩:=pW M;split at j
 .rename_i L;simp only[aaw,aet,aas]at j;obtain⟨c,G,l,hl,rfl⟩:=j;simp only[aE,aes,acn]at he;obtain⟨q,⟨r,D,rfl⟩,rfl,rfl⟩:=he;obtain⟨k,E,F,_⟩:=zN h (λi=>c[i]?) dw.toList l z.cells r zv.cells hl (VR.cells (y ρ) A) D;have g:(L.mapM λ(f:Field)=>(do pure (f.offset,<-sizeOf f.type):Sem (Nat×Nat))).run P w=.ok c.toArray w:=by
   rw[Array.mapM_eq_mapM_toList];have:∀(m:List Field)(pl:List (Nat×Nat)),m.mapM (λ(f:Field)=>(dV P f.type).map λs=>(f.offset,s))=some pl->(m.mapM λ(f:Field)=>(Prod.mk f.offset<$>sizeOf f.type:Sem (Nat×Nat))).run P w=.ok pl w:=by intro m;induction m with|nil=>intro pl h;simp at h;subst h;simp|cons f m N=>intro pl h;simp only[agd,aep,aaw,aet,aas,aes]at h;obtain⟨_,⟨s,hs,rfl⟩,J,h2,rfl⟩:=h;simp[agd,gN hs,N J h2]
   simp[this L.toList c G]
  refine bo.val (c:=.agg k) (w':=w) ?_ (b9.bL h.I (by simp only[VR];exact F));have B:(dw.map λp=>(p.1,a.eval p.2)).toList=dw.toList.map λp=>(p.1,a.eval p.2):=aC;simp only[execOp,C,Instr.build,Sem.run_bind,u,Result.andThen_ok,bJ hd,g];have K:(λ(i:Nat)=>c.toArray[i]?)=(λ(i:Nat)=>c[i]?):=by funext i;simp
  simp only[K];have:(dw.map λx=>match x with|(i,x)=>(i,a.eval x)).toList=dw.toList.map λp=>(p.1,a.eval p.2):=aC;rw[this,E];simp
 .rename_i n e;simp only[aaw,aet,aas]at j;obtain⟨s,hs,l,hl,rfl⟩:=j;simp only[aE,aes,acn]at he;obtain⟨q,⟨r,D,rfl⟩,rfl,rfl⟩:=he;obtain⟨k,E,F,_⟩:=zN h (λi=>some (i*s,s)) dw.toList l z.cells r zv.cells (by simpa using hl) (VR.cells (y ρ) A) D;refine bo.val (c:=.agg k) (w':=w) ?_ (b9.bL h.I (by simp only[VR];exact F));have:(dw.map λx=>match x with|(i,x)=>(i,a.eval x)).toList=dw.toList.map λp=>(p.1,a.eval p.2):=aC;simp only[execOp,C,Instr.build,Sem.run_bind,u,Result.andThen_ok,bJ hd,gN hs];rw[this,E];simp
 cases j
end
section
variable{P:Program}{b:bS}{ρ:aQ}{H H':ai}{w:World}{nt:Nat}{aa:am AV}{a:Act}{o:Oper}{ao:bC}{v:AV}
theorem Of(h:cO P b ρ H w nt aa a){t:TypeId}{len:Nat}{dw:Array (Nat×Operand)}(E:o.op=.buildSlice t len dw)(c:bG P nt o=some ao)(he:aE ao aa H=some (v,H')):bo P b ρ w (execOp a.eval o) v H':=by
 simp only[bG,E,aep,aaw]at c;obtain⟨d,hd,c⟩:=c;split at c
 .rename_i e;simp only[aaw]at c;obtain⟨s,hs,z,F,c⟩:=c;split at c;·cases c
  rename_i C;simp only[aaw,aet,aas]at c;obtain⟨l,hl,rfl⟩:=c;simp only[aE]at he;split at he
  .rename_i r G;split at he
   .rename_i h1;simp only[aas,acn]at he;obtain⟨rfl,rfl⟩:=he;obtain⟨zv,j,q,u⟩:=pW F;have k:=VR.cells (q ρ) u;have y:=aR.length k;simp only[afe]at y;have f:zv.cells.size=s:=ab;have m:=zM (ρ:=ρ) k len ab;obtain⟨A,n,J,N⟩:=zN h (λi=>some (i*s,s)) dw.toList l (ep z.cells len) r ((ags (len*zv.cells.size)).map (zv.cells[·% zv.cells.size]!)) (by simpa using hl) m G;obtain⟨K,L,M⟩:=uU h.I J e r.length rfl [];refine bo.val (c:=.slice (some ⟨w.heap.size,0,none⟩) len len) (w':={w with heap:=w.heap.push (.cells (A.toList++[]).toArray e (0,0))}) ?_ ⟨_,K,?_,L,M⟩
    .have:(dw.map λx=>match x with|(i,x)=>(i,a.eval x)).toList=dw.toList.map λp=>(p.1,a.eval p.2):=aC;simp only[execOp,E,Instr.buildSlice,Sem.run_bind,bJ hd,Result.andThen_ok,gN hs,Sem.run_ite];rw[ap ab];have D:(if len*s=0 then(Sem.run P (pure #[]) w:Result (Array Value))else Sem.run P (do pure (<-zeroValue e).cells) w)=.ok (if len*s=0 then #[]else zv.cells) w:=by split<;>simp[j]
     by_cases g:len*s=0
     .rw[aH g];simp only[Sem.run_pure,Result.andThen_ok];have B:((ags (len*s)).map λx=>(#[]:Array Value)[x %(#[]:Array Value).size]!)=((ags (len*zv.cells.size)).map (zv.cells[·% zv.cells.size]!)):=by rw[f,g];simp
      rw[B,this,n];simp[newRow]
     rw[ap g];simp only[Sem.run_bind,j,Sem.run_pure,Result.andThen_ok];rw[this];rw[f]at n;rw[f,n];simp[newRow]
    simp only[VR];exact⟨trivial,aeq _,aeq _,λ_=>trivial,_,_,aQ.dW ..,λ_=>by simp,λh=>by cases h⟩
   cases he
  cases he
 cases c
theorem Og(X:Array Value):(X.toList++[]).toArray=X:=aC
theorem rc{n:Nat}(h:dG n=true):n<=70368744177664:=aeG h
theorem Oh(h:cO P b ρ H w nt aa a){t:TypeId}{x y:Operand}(R:o.op=.makeSlice t x y)(g:bG P nt o=some ao)(he:aE ao aa H=some (v,H')):bo P b ρ w (execOp a.eval o) v H':=by
 simp only[bG,R,aep,aaw]at g;obtain⟨d,hd,g⟩:=g;split at g
 .rename_i e;simp only[aaw]at g;obtain⟨s,hs,z,Y,g⟩:=g;split at g;·cases g
  rename_i Q;simp only[aaw,aet,aas]at g;obtain⟨A,B,ox,h1,oy,h2,rfl⟩:=g;simp only[aE]at he;have S:=h.gv h1;have T:=h.gv h2;split at he
  .rename_i l c hl C;split at he
   .rename_i dL;simp only[aew]at dL;obtain⟨⟨D,E⟩,F⟩:=dL;have n:l<=c:=aeG D;have W:=rc E;have X:=rc F;simp only[aas,acn]at he;obtain⟨rfl,rfl⟩:=he;rw[hl]at S;rw[C]at T;obtain⟨k1,ag,Z⟩:=S.hZ;obtain⟨k2,av,hy⟩:=T.hZ;obtain⟨zv,G,J,K⟩:=pW Y;have k:=VR.cells (J ρ) K;have m:=aR.length k;simp only[afe]at m;have i:zv.cells.size=s:=ab;have p:=zM (ρ:=ρ) k c ab;obtain⟨q1,q2,q3⟩:=uU h.I p e (c*s) (by rw[xz,m,i]) [];obtain⟨ti,L,M⟩:=CO B;refine bo.val (c:=.slice (some ⟨w.heap.size,0,none⟩) l c) (w':={w with heap:=w.heap.push (.cells (((ags (c*zv.cells.size)).map (zv.cells[·% zv.cells.size]!)).toList++[]).toArray e (0,0))}) ?_ ⟨_,q1,?_,q2,q3⟩
    .have N:IntKind.i64.wrap (afq l)=l:=xy _ (by simp only[aev];omega) (by simp only[aev];omega);have O:IntKind.i64.wrap (afq c)=c:=xy _ (by simp only[aev];omega) (by simp only[aev];omega);have q:¬((ti.bytes:Int)*(c:Int)>2^48):=by
      have e1:(2:Int)^48=281474976710656:=bK;rw[e1,M];have:((A*c:Nat):Int)<=281474976710656:=by rw[Nat.mul_comm];omega
      push_cast at this;omega
     have r:¬((c:Int)<0):=ab;have j:¬((l:Int)<0):=ab;have u:¬((l:Int)>(c:Int)):=ab;simp only[execOp,R,Instr.makeSlice,Sem.run_bind,bJ hd,Result.andThen_ok,Z,hy,asInt,asIntOf,Sem.run_pure,uR L,N,O];simp only[q,r,j,u,decide_false,Bool.or_false,abu,bA];rw[Og];by_cases V:c*s=0
     .simp only[run_askRoom,Result.andThen_ok,gN hs,aeA,V,i,newRow,bc,Sem.run_bind,Sem.run_pure,run_newObj];have h0:∀f:Nat->Value,(ags 0).map f= #[]:=λf=>by simp
      simp only[h0]
     simp only[run_askRoom,Result.andThen_ok,gN hs,aeA,V,i,newRow,bA,Sem.run_bind,Sem.run_pure,run_newObj,G]
    simp only[VR];exact⟨trivial,n,aeq _,λ_=>trivial,_,_,aQ.dW ..,λ_=>by simp,λh=>by cases h⟩
   cases he
  cases he
 cases g
theorem Oi(h:cO P b ρ H w nt aa a){t d:TypeId}{x:Operand}(S:o.op=.convert t d x)(f:bG P nt o=some ao)(he:aE ao aa H=some (v,H')):bo P b ρ w (execOp a.eval o) v H':=by
 simp only[bG,S,aep,aaw]at f;obtain⟨ts,A,td,B,f⟩:=f;split at f
 .rename_i k0 k;simp only[aaw,aet,aas]at f;obtain⟨X,h1,rfl⟩:=f;have u:=h.gv h1;simp only[aE]at he;split at he;·rename_i j n G;simp only[aas,acn]at he;obtain⟨rfl,rfl⟩:=he;rw[G]at u;obtain⟨k',_,E⟩:=u.hZ;exact bo.val (c:=.int k (k.wrap n)) (w':=w) (by simp[execOp,S,convert,bJ A,bJ B,E,Conv.intToInt]) (b9.bL h.I (by simp[VR,sO]))
  cases he
 .simp only[aaw,aet,aas]at f;obtain⟨X,h1,rfl⟩:=f;have u:=h.gv h1;simp only[aE]at he;split at he;·rename_i s G;simp only[aas,acn]at he;obtain⟨rfl,rfl⟩:=he;rw[G]at u;obtain⟨p,M,E⟩:=u.ky;exact bo.val (c:=.string p) (w':=w) (by simp[execOp,S,convert,bJ A,bJ B,E]) (b9.bL h.I (by rw[E]at u;exact u))
  cases he
 .rename_i e;simp only[aaw]at f;obtain⟨te,J,f⟩:=f;split at f
  .simp only[bc]at f;split at f;case isFalse=>cases f
   rename_i V;simp only[aaw,aet,aas]at f;obtain⟨X,h1,rfl⟩:=f;have u:=h.gv h1;simp only[aE]at he;split at he
   .rename_i s G;simp only[aas,acn]at he;obtain⟨rfl,rfl⟩:=he;rw[G]at u;obtain⟨p,M,E⟩:=u.ky;have ag:p.size=s.length:=by rw[<-M,aeR,afe];rfl
    have a':=grownCap_ge w p.size 0 e;have C:=Lib.run_convert_string_bytes (P:=P) w t d e p A B J;have W:(Lib.bytesCells w e p).size=grownCap w p.size 0 e:=by simp only[Lib.bytesCells,Array.size_append,Array.size_map,Array.size_replicate];have:p.data.size=p.size:=rfl;omega
    have D:(Lib.bytesWorld w e p).heap=w.heap.push (.cells (Lib.bytesCells w e p) e ((Lib.bytesCells w e p).size,(Lib.bytesCells w e p).size+1)):=by
     apply agf;intro j;rw[afT];by_cases hj:j=w.heap.size;·rw[aH hj,hj,Lib.bytesWorld_at_new]
     rw[ap hj];rcases afg j w.heap.size with y|a6;·exact Lib.bytesWorld_at_old w e p j y
     rw[ae3 (by rw[Lib.bytesWorld_size];omega),ae3 ab]
    obtain⟨Y,Z,q3⟩:=h.I.alloc (q:=((Lib.bytesCells w e p).size,(dV P e).getD 0)) (hq:=rfl) (o:=.cells (bX (s.map λn=>.int 4 (.ofNat n))) s.length e true [] 0) (ob:=.cells (Lib.bytesCells w e p) e ((Lib.bytesCells w e p).size,(Lib.bytesCells w e p).size+1)) aC rfl (by
     simp only[OR];refine⟨trivial,ab,λi hi=>?_,λ_ i _ hi=>by omega⟩;have N:i<p.data.size:=by have:p.data.size=p.size:=rfl;omega
     refine⟨.int .u8 (p.data[i]).toNat,?_,?_⟩;·simp only[Lib.bytesCells,aeL];rw[Array.getElem?_append_left (by simpa using N)];simp only[Array.getElem?_map,getElem?_pos p.data i N,aeT]
     rw[lW _ _ (by simpa using hi)];have av:s[i]?=some (p.data[i]).toNat:=by rw[<-M,ae5,afi,getElem?_pos p.data i N];rfl
     have:i<s.length:=hi;simp only[agt,ae5,av,aeT,afc,VR];exact⟨rfl,rfl⟩);refine bo.val (c:=.slice (some ⟨w.heap.size,0,none⟩) p.size (grownCap w p.size 0 e)) (w':=Lib.bytesWorld w e p) (by simp only[execOp,S,E,Sem.run_bind,C,Result.andThen_ok,Sem.run_pure]) ⟨_,Y,?_,Z.uO D,q3.uO D rfl rfl rfl⟩;simp only[VR];refine⟨ag,aeq _,ab,(λf=>by cases f),_,_,aQ.dW ..,(λ_=>by simp),λ_=>?_⟩;rw[aQ.pR];simp only[V,afc];omega
   cases he
  simp at f
 .rename_i e;simp only[aaw]at f;obtain⟨te,J,f⟩:=f;split at f
  .simp only[bc,aaw,aet,aas]at f;obtain⟨X,h1,rfl⟩:=f;have u:=h.gv h1;simp only[aE]at he;split at he;·rename_i G;simp only[aas,acn]at he;obtain⟨rfl,rfl⟩:=he;rw[G]at u;have E:=u.kz;exact bo.val (c:=.string .empty) (w':=w) (by simp[execOp,S,convert,bJ A,bJ B,bJ J,E,Conv.bytesToString]) (b9.bL h.I (by simp[VR]))
   .rename_i id off len cap ex G;split at he
    .rename_i l hl;simp only[aes,acn]at he;obtain⟨bs,bH,rfl,rfl⟩:=he;rw[G]at u;obtain⟨ad,cp,E,p1,p2,p3,bb,z,hb,p4,p5⟩:=u.lx;have L:∀(l:List AV)(m:List Value)(r:List Nat),sE l=some r->aR ρ l m->m=(r.map afq).map (Value.int .u8)/\∀n∈r,n<256:=by
      intro l;induction l with
      |nil=>intro m r h1 h2;cases m with|nil=>simp only[sE,aas]at h1;subst h1;simp|cons _ _=>simp[aR]at h2
      |cons v l T=>
       intro m r h1 h2;cases m with
       |nil=>simp[aR]at h2
       |cons c m=>
        simp only[aR]at h2;simp only[sE]at h1;split at h1
        .rename_i n r' F e2;injection h1 with h1;subst h1;obtain⟨g,g'⟩:=T m r' e2 h2.2;unfold BR at F;split at F
         .rename_i n';split at F
          .rename_i y;injection F with F;subst F;obtain⟨k',hk,aw⟩:=h2.1.hZ;have:k'=.u8:=sN (by rw[<-hk];rfl);subst this;have a8:n'<256:=ae2 (Nat.lt_succ_self n') (aeG y);refine⟨by simp[g,aw],λq hq=>?_⟩;rcases aer.1 hq with e|e;·omega
           exact g' q e
          cases F
         cases F
        cases h1
     have Q:∃m:List Value,(loadCells ad len).run P w=.ok m.toArray w/\aR ρ l m:=by
      rcases af6 len with hz|hz
      .subst hz;refine⟨[],by simp[loadCells,loadCellsFrom],?_⟩;unfold du at hl;split at hl;·simp only[eX,aas]at hl;subst hl;simp[aR]
       cases hl
      have:=p4 ab;subst this;unfold du at hl;split at hl;·rename_i c m' e' ba aM fz hi;obtain⟨b',x',ob,K,y,ax,O⟩:=h.I.be (i:=id) (by rw[hi];simp);rw[hb]at K;injection K with K;injection K with F e2;subst F;subst e2;rw[hi]at O;cases ob with|cells cs el fr=>obtain⟨Y,Z⟩:=zF O hl;exact⟨_,xm w ax (z+off) len (Z hz),Y⟩|_=>simp[OR]at O
      cases hl
     obtain⟨m,hm,ay⟩:=Q;obtain⟨a1,y⟩:=L l m bs bH ay;subst a1;have C:=run_bytesToString (P:=P) w ad len cp (bs.map afq) hm;have R:∀(r:List Nat)(s:ByteArray),((r.map afq).foldl (λr n=>r.push (agp n.toNat)) s).data.toList=s.data.toList++r.map agp:=by intro r;induction r with|nil=>intro s;simp|cons n r T=>intro s;simp only[aez,List.foldl_cons];rw[T];simp[ByteArray.push]
     refine bo.val (c:=.string _) (w':=w) (by simp[execOp,S,convert,bJ A,bJ B,bJ J,E,C];rfl) (b9.bL h.I ?_);simp only[VR];rw[R];simp only[aeZ,af8];have:bs.map (af5∘agp)=bs:=by
      have a2:∀(r:List Nat),(∀n∈r,n<256)->r.map (af5∘agp)=r:=by intro r;induction r with|nil=>intro _;rfl|cons n r T=>intro hr;rw[aez,T (λq hq=>hr q (aen _ hq))];have:=hr n (acm ..);simp only[Function.comp,UInt8.toNat_ofNat',ae1,and_true];omega
      exact a2 bs y
     rw[this];rfl
    cases he
   cases he
  simp at f
 cases f
theorem Oj(h:cO P b ρ H w nt aa a){x:Operand}{q t:TypeId}{ok:Bool}(r:o.op=.typeAssert x q t ok)(j:bG P nt o=some ao)(he:aE ao aa H=some (v,H')):bo P b ρ w (execOp a.eval o) v H':=by
 simp only[bG,r,aep,aaw]at j;obtain⟨d,hd,j⟩:=j;have key:(∀m,d≠.interface m)/\∃z k,lU P t=some z/\eB P nt x=some k/\ao=.typeAssert t z ok k:=by cases d<;>simp only[bc,abu,bA,aaw,aet,aas]at j<;>first|(cases j;done)|(obtain⟨z,h0,k,h1,h2⟩:=j;exact⟨(λm e=>by cases e),z,k,h0,h1,h2.symm⟩)
 obtain⟨g,z,k,J,h1,rfl⟩:=key;obtain⟨zv,l,n,K⟩:=pW J;have A:=h.gv h1;simp only[aE]at he;have G:∀{c:Value}{w':World}{s:Sem Value},s.run P w=.ok c w'->(do pure (.value (<-s)):Sem Next).run P w=.ok (.value c) w':=λh=>by simp[h]
 have p:(Instr.typeAssert .nilIface q t true).run P w=.ok (.tuple #[zv,.bool false]) w:=by simp only[Instr.typeAssert,Sem.run_bind,bJ hd,Result.andThen_ok];cases d<;>first|(exact absurd rfl (g _))|simp[l]
 have i:∀(c:Value)(M:Bool),(Instr.typeAssert (.iface t c) q t M).run P w=.ok (if M then .tuple #[c,.bool true]else c) w:=by intro c M;simp only[Instr.typeAssert,Sem.run_bind,bJ hd,Result.andThen_ok];cases d<;>first|(exact absurd rfl (g _))|simp
 have f:∀(u:TypeId)(c:Value),u≠t->(Instr.typeAssert (.iface u c) q t true).run P w=.ok (.tuple #[zv,.bool false]) w:=by intro u c hu;simp only[Instr.typeAssert,Sem.run_bind,bJ hd,Result.andThen_ok];cases d<;>first|(exact absurd rfl (g _))|simp[hu,l]
 split at he
 .rename_i C;rw[C]at A;have B:=A.xw;split at he;·rename_i dL;subst dL;simp only[aas,acn]at he;obtain⟨rfl,rfl⟩:=he;exact bo.val (c:=.tuple #[zv,.bool false]) (w':=w) (by simp[execOp,r,B,p]) (b9.bL h.I (by simp[VR,aR,n ρ]))
  cases he
 .rename_i u L C;rw[C]at A;obtain⟨y,F,B⟩:=A.uP;split at he
  .rename_i hu;have D:u=t:=aey hu;subst D;simp only[aas,acn]at he;obtain⟨rfl,rfl⟩:=he;refine bo.val (c:=if ok then .tuple #[y,.bool true]else y) (w':=w) (by simp[execOp,r,B,i]) (b9.bL h.I ?_);cases ok;·exact F
   simp[VR,aR,F]
  rename_i hu;split at he;·rename_i dL;subst dL;simp only[aas,acn]at he;obtain⟨rfl,rfl⟩:=he;have E:u≠t:=λe=>hu (by subst e;simp);exact bo.val (c:=.tuple #[zv,.bool false]) (w':=w) (by simp[execOp,r,B,f u y E]) (b9.bL h.I (by simp[VR,aR,n ρ]))
  cases he
 cases he
end
section
variable{P:Program}{b:bS}{ρ:aQ}{H H':ai}{w:World}{nt:Nat}{aa:am AV}{a:Act}{o:Oper}{ao:bC}{v:AV}
structure rf(P:Program)(w:World)(argTypes:Array TypeId)(e:TypeId)(size:Nat)(x:Value)(n:Nat)(m:List Value):Prop where
 run:∀(ty:TypeId)(s:Value)(bY:Option Addr)(sLen sCap:Nat),s=.slice bY sLen sCap->∀sT,argTypes[0]?=some sT->P.underlying sT=some (.slice e)->dV P e=some size->
  (sLen+n<=sCap->∀w',(match bY with|some a=>storeCells (a.add (sLen*size)) m|none=>pure ():Sem Unit).run P w=.ok () w'->
   (Builtin.append_ argTypes ty #[s,x]).run P w=.ok (.slice bY (sLen+n) sCap) w')/\
  (¬sLen+n<=sCap->∀i,P.info? e=some i->(sLen+n)*i.bytes<=70368744177664->sLen+n<=70368744177664->∀z,(∀w,(zeroValue e).run P w=.ok z w)->∀cM:Array Value,(Builtin.firstCells size sLen s).run P w.drew=.ok cM w.drew->
   (Builtin.append_ argTypes ty #[s,x]).run P w=.ok (.slice (some ⟨w.heap.size,0,none⟩) (sLen+n) (grownCap w (sLen+n) sCap e))
     (w.drew.alloc (.cells (cM++m.toArray++Builtin.zeroCells z.cells (grownCap w (sLen+n) sCap e - (sLen+n))) e)))
theorem GH(n:Nat):∀(r c:Nat),256<=c->c<2*n->Builtin.growBy n r c<=2*n
 |0,c,_,h=>by simp only[Builtin.growBy];omega
 |r+1,c,h1,h2=>by
  simp only[Builtin.growBy];split;·omega
  rename_i d;rcases afg (c+(c+768)/4) (2*n)with h|h;·exact GH n r _ ab h
  have:c+(c+768)/4<=2*n:=ab;have he:c+(c+768)/4=2*n:=ab;cases r with|zero=>simp only[Builtin.growBy];omega|succ r=>simp only[Builtin.growBy];rw[aH ab];omega
theorem Ol{c cM:Nat}(h:cM<c):Builtin.nextslicecap c cM<=2*c:=by
 unfold Builtin.nextslicecap;split;·omega
 split;·omega
 exact GH c 4 cM ab ab
theorem zO{c cM d:Nat}(h:cM<c)(hb:c*d<=70368744177664):¬(Builtin.nextslicecap c cM*d>2^48):=by
 have h1:=aeV d (Ol h);have h2:2*c*d=2*(c*d):=by rw[Nat.mul_assoc]
 have e:(2:Nat)^48=281474976710656:=bK;omega
theorem rf.Om{argTypes:Array TypeId}{e B:TypeId}{size n:Nat}{x:Value}{m:List Value}{h:TypeDesc}(t:argTypes[1]?=some B)(f:P.underlying B=some h)(j:∀k,h≠.int k)(d:∀u:World,(Builtin.lenOf x).run P u=.ok n u)(h1:(Builtin.firstCells size n x).run P w=.ok m.toArray w)(h2:(Builtin.firstCells size n x).run P w.drew=.ok m.toArray w.drew):rf P w argTypes e size x n m:=by
 refine⟨λE s bY l C hs F hT hu g=>⟨λc u cz=>?_,λc i hi y D z r cM eZ=>?_⟩⟩
 .subst hs;have r:(match h with|.int _=>true|_=>false)=false:=by cases h<;>first|rfl|(exact absurd rfl (j _))
  cases bY with|none=>simp only[Sem.run_pure,Result.ok.injEq,true_and]at cz;subst cz;simp[Builtin.append_,hT,t,bJ hu,gN g,bJ f,r,d,c,h1]|some ad=>simp only at cz;simp[Builtin.append_,hT,t,bJ hu,gN g,bJ f,r,d,c,h1,cz]
 subst hs;have A:(match h with|.int _=>true|_=>false)=false:=by cases h<;>first|rfl|(exact absurd rfl (j _))
 have p:=zO (Nat.lt_of_not_le c) y;have q:¬(((l+n:Nat):Int)>IntKind.i64.max):=by have:IntKind.i64.max=9223372036854775807:=bK;rw[this];omega
 simp only[Builtin.append_,hT,t,bJ hu,gN g,bJ f,A,d,c,Sem.run_bind,Result.andThen_ok,Sem.run_pure,abu,bA,List.getElem?_toArray,afZ,afh,uR hi,q,false_and,p,run_choose,Question.forced,run_askRoom];rw[show({heap:=w.heap,tape:=w.tape,drawn:=w.drawn+1,os:=w.os,output:=w.output}:World)=w.drew from rfl,eZ];simp only[Result.andThen_ok,Bool.not_false,bc,h2,r,newRow,Sem.run_bind,run_newObj,Sem.run_pure];rfl
theorem rf.On{argTypes:Array TypeId}{e E:TypeId}{size n h:Nat}{k J:IntKind}{z:Value}(F:argTypes[1]?=some E)(j:P.underlying E=some (.int k))(x:uH P e=some h)(O:n*h<=70368744177664)(M:n<=70368744177664)(K:∀w,(zeroValue e).run P w=.ok z w)(y:z.cells.size=size):rf P w argTypes e size (.int J (n:Int)) n ((ags (n*z.cells.size)).map (z.cells[·% z.cells.size]!)).toList:=by
 obtain⟨G,d,A⟩:=CO x;have l:IntKind.i64.wrap (n:Int)=n:=xy _ ab ab;have m:¬((n:Int)*(G.bytes:Int)>2^48):=by have L:(2:Int)^48=281474976710656:=bK;rw[L,A];have:((n*h:Nat):Int)<=281474976710656:=ab;push_cast at this;omega
 have f:¬((n:Int)<0):=ab;have g:∀u,(if n*size=0 then pure #[]else do pure (Builtin.zeroCells (<-zeroValue e).cells n):Sem (Array Value)).run P u=.ok ((ags (n*z.cells.size)).map (z.cells[·% z.cells.size]!)) u:=by
  intro u;by_cases h0:n*size=0;·rw[aH h0,y,h0];simp
  rw[ap h0];simp[K,Builtin.zeroCells]
 refine⟨λQ s bY q I hs R hT hu p=>⟨λc u cz=>?_,λc i hi B N S C cM eZ=>?_⟩⟩;·subst hs;simp only[Builtin.append_,hT,F,bJ hu,gN p,bJ j,c,Sem.run_bind,Result.andThen_ok,Sem.run_pure,bc,List.getElem?_toArray,afZ,afh,asInt,asIntOf,l,f,bA,uR d,m,aeA,aeY,abu,g];cases bY with|none=>simp only[Sem.run_pure,Result.ok.injEq,true_and]at cz;subst cz;rfl|some ad=>simp only at cz;simp only[Sem.run_bind,cz,Result.andThen_ok,Sem.run_pure]
 subst hs;have r:=zO (Nat.lt_of_not_le c) B;have t:¬(((q+n:Nat):Int)>IntKind.i64.max):=by have:IntKind.i64.max=9223372036854775807:=bK;rw[this];omega
 have D:i=G:=by rw[hi]at d;injection d
 subst D;simp only[Builtin.append_,hT,F,bJ hu,gN p,bJ j,c,Sem.run_bind,Result.andThen_ok,Sem.run_pure,bc,List.getElem?_toArray,afZ,afh,asInt,asIntOf,l,f,bA,uR d,m,aeA,aeY,abu,t,false_and,r,run_choose,Question.forced,run_askRoom];rw[show({heap:=w.heap,tape:=w.tape,drawn:=w.drawn+1,os:=w.os,output:=w.output}:World)=w.drew from rfl,eZ];simp only[Result.andThen_ok,g,C,newRow,Sem.run_bind,run_newObj,Sem.run_pure];rfl
end
section
variable{P:Program}{b:bS}{ρ:aQ}{H H':ai}{w:World}{nt:Nat}{aa:am AV}{a:Act}{o:Oper}{ao:bC}{v:AV}
theorem CT(c:Array Value)(n:Nat):(Builtin.zeroCells c n).size=n*c.size:=by simp[Builtin.zeroCells]
theorem GI(r:bh P b ρ H w){id:af}{off len k m:Nat}{ad:Addr}{J x:Nat}(hb:ρ id=some (J,x))(h:k≠0->ad=⟨J,x+off,none⟩)(q:len<=k){size:Nat}(E:m=len*size){l:List AV}(hl:du H id off m=some l):∃p:List Value,aR ρ l p/\l.length=m/\∀f:World,f.heap=w.heap->(loadCells ad m).run P f=.ok p.toArray f:=by
 unfold du at hl;split at hl
 .rename_i c n e B aM fz hi;obtain⟨i,_,_⟩:=zE m c n off l hl;rcases af6 m with h0|h0;·subst h0;simp only[eX,aas]at hl;subst hl;exact⟨[],by simp[aR],rfl,λf _=>by simp[loadCells,loadCellsFrom]⟩
  have C:len≠0:=by intro e;subst e;omega
  have:=h ab;subst this;obtain⟨F,G,s,g,D,j,d⟩:=r.be (i:=id) (by rw[hi];simp);rw[hb]at g;injection g with g;injection g with t u;subst t;subst u;rw[hi]at d;cases s with|cells cs I fr=>obtain⟨y,z⟩:=zF d hl;exact⟨_,y,i,λf A=>xm f (by rw[A];exact j) (x+off) m (z h0)⟩|_=>simp[OR]at d
 cases hl
theorem CU(k:bh P b ρ H w){x:AV}{c:Value}(i:VR ρ x c){size n:Nat}{l:List AV}(h:fB H size x=some (n,l)):∃g:List Value,aR ρ l g/\l.length=n*size/\(∀d:World,(Builtin.lenOf c).run P d=.ok n d)/\∀d:World,d.heap=w.heap->(Builtin.firstCells size n c).run P d=.ok g.toArray d:=by
 unfold fB at h;split at h;·simp only[aas,acn]at h;obtain⟨rfl,rfl⟩:=h;have:=i.kz;subst this;exact⟨[],by simp[aR],aC,λd=>by simp[Builtin.lenOf],λd _=>by simp[Builtin.firstCells]⟩
 .rename_i id off len cap ex;split at h;·rename_i B hl;simp only[aas,acn]at h;obtain⟨rfl,rfl⟩:=h;obtain⟨ad,C,rfl,D,E,F,I,z,hb,m,G⟩:=i.lx;obtain⟨g,p,q,r⟩:=GI (P:=P) k hb m ab rfl hl;exact⟨g,p,q,λd=>by simp[Builtin.lenOf],λd y=>by simp only[Builtin.firstCells];exact r d y⟩
  cases h
 .rename_i s;split at h
  .rename_i e;have e:=aey e;subst e;simp only[aas,acn]at h;obtain⟨rfl,rfl⟩:=h;obtain⟨t,j,rfl⟩:=i.ky;have f:t.size=s.length:=by rw[<-j,aeR,afe];rfl
   refine⟨t.data.toList.map λI=>.int .u8 I.toNat,?_,aC,λd=>by simp[Builtin.lenOf,f],λd _=>?_⟩;·rw[<-j];generalize t.data.toList=l;induction l with|nil=>simp[aR]|cons u l A=>simp only[aez,aR];exact⟨by simp[VR,kc],A⟩
   simp only[Builtin.firstCells,Sem.run_pure,Result.ok.injEq,and_true];rw[<-f];have:t.extract 0 t.size=t:=by apply ByteArray.ext;rw[ByteArray.data_extract];exact Array.extract_size
   rw[this];apply Array.toList_inj.1;simp
  cases h
 cases h
theorem CV(w:World)(A:Array Value)(L:List Value)(e:TypeId)(h:A.toList=L):w.alloc (.cells A e)={w with heap:=w.heap.push (.cells L.toArray e (0,0))}:=by subst h;show({w with heap:=w.heap.push (.cells A e)}:World)=_;rw[Array.toArray_toList]
theorem Oo(D:bh P b ρ H w){s:AV}{sv:Value}(hs:VR ρ s sv){argTypes:Array TypeId}{ty sT e size V n:Nat}{l:List AV}{m:List Value}{x:Value}(S:rf P w argTypes e size x n m)(hl:aR ρ l m)(A:l.length=n*size)(hT:argTypes[0]?=some sT)(hu:P.underlying sT=some (.slice e))(t:dV P e=some size)(a':uH P e=some V){z:Value}(hz:∀w,(zeroValue e).run P w=.ok z w)(ag:z.cells.size=size)(he:iK e V size H s n l=some (v,H')):∃c w',(Builtin.append_ argTypes ty #[sv,x]).run P w=.ok c w'/\b9 P b ρ w v H' c w':=by
 obtain⟨ti,av,aw⟩:=CO a';have ba:=aR.length hl;unfold iK at he;split at he;·cases he
 rename_i K;have K:cE l=true:=by simpa using K
 have u:cW b w w.drew:=(cW.refl b w).drew;split at he
 .have:=hs.kz;subst this;have g:=S.run ty (.slice none 0 0) none 0 0 rfl sT hT hu t;split at he;·rename_i r;have r:=aey r;subst r;simp only[aas,acn]at he;obtain⟨rfl,rfl⟩:=he;exact⟨_,w,g.1 ab w aC,b9.bL D (by simp[VR])⟩
  rename_i r;have r:n≠0:=λe=>r (by subst e;rfl);split at he
  .rename_i q;simp only[aew]at q;simp only[aas,acn]at he;obtain⟨rfl,rfl⟩:=he;have bb:=grownCap_ge w (0+n) 0 e;have h2:=g.2 ab ti av (by rw[aeL,aw];exact rc q.1) (by rw[aeL];exact rc q.2) z hz #[] (by simp[Builtin.firstCells]);obtain⟨q1,q2,q3⟩:=uU (P:=P) (w:=w.drew) D.drew hl e (n*size) A.symm (Builtin.zeroCells z.cells (grownCap w (0+n) 0 e - (0+n))).toList;refine⟨_,_,h2,_,q1,?_,?_,?_⟩;·simp only[VR];refine⟨ab,aeq _,ab,(λh=>by cases h),_,_,aQ.dW ..,λ_=>rfl,λ_=>?_⟩;rw[aQ.pR];simp only[t,afc,aex,afe,CT,ag,<-ba,A];rw[Nat.sub_mul];have:=aeV size bb;simp only[aeL]at this⊢;omega
   .rw[CV _ _ (m++(Builtin.zeroCells z.cells (grownCap w (0+n) 0 e - (0+n))).toList) _ aC];exact q2
   rw[CV _ _ (m++(Builtin.zeroCells z.cells (grownCap w (0+n) 0 e - (0+n))).toList) _ aC];exact u.trans q3
  cases he
 .rename_i id off len cap ex;obtain⟨ad,E,rfl,q1,q2,q3,cp,G,hb,q4,q5⟩:=hs.lx;have g:=S.run ty (.slice (some ad) len E) (some ad) len E rfl sT hT hu t;simp only at he;split at he
  .rename_i d;have d:=aeG d;split at he
   .rename_i r;have r:=aey r;subst r;simp only[aas,acn]at he;obtain⟨rfl,rfl⟩:=he;have bd:m=[]:=by rw[Nat.zero_mul]at A;exact List.length_eq_zero_iff.1 ab
    subst bd;refine⟨_,w,g.1 ab w (by simp[storeCells]),b9.bL D ?_⟩;simp only[VR];exact⟨trivial,d,q2,q3,cp,G,hb,q4,q5⟩
   rename_i r;have r:n≠0:=λe=>r (by subst e;rfl);split at he
   .rename_i H2 hw;simp only[aas,acn]at he;obtain⟨rfl,rfl⟩:=he;have:=q4 ab;subst this;obtain⟨k1,k2,k3⟩:=xp D hw hb hl;refine⟨_,_,g.1 ab _ ?_,ρ,bR.refl ρ,?_,k2,k3⟩;·simp only[pT];rw[show G+off+len*size=G+(off+len*size)by omega];exact k1
    simp only[VR];exact⟨trivial,d,q2,q3,cp,G,hb,q4,q5⟩
   cases he
  rename_i d;have d:¬len+n<=cap:=λh=>d (aff h);split at he;·cases he
  rename_i q;have q:dG ((len+n)*V)=true/\dG (len+n)=true:=by simpa using q
  split at he
  .rename_i c mm e2 b' aM fz hi;split at he;·cases he
   rename_i cM eZ;have bv:du H id off (len*size)=some cM:=by unfold du;rw[hi];exact eZ
   obtain⟨F,g1,g2,g3⟩:=GI (P:=P) D hb q4 ab rfl bv;have b0:(Builtin.firstCells size len (.slice (some ad) len E)).run P w.drew=.ok F.toArray w.drew:=by simp only[Builtin.firstCells];exact g3 _ rfl
   have eG:aR ρ (cM++l) (F++m):=aR.append g1 hl;have p:(len+n)*size=(cM++l).length:=by rw[aex,g2,A,agh]
   have L:=aR.length eG;have M:¬len+n<=E->∃f:List Value,f.length=(grownCap w (len+n) E e - (len+n))*size/\len+n<=grownCap w (len+n) E e/\(Builtin.append_ argTypes ty #[.slice (some ad) len E,x]).run P w=.ok (.slice (some ⟨w.heap.size,0,none⟩) (len+n) (grownCap w (len+n) E e)) {w.drew with heap:=w.heap.push (.cells (F++m++f).toArray e (0,0))}:=by intro r;refine⟨(Builtin.zeroCells z.cells (grownCap w (len+n) E e - (len+n))).toList,by rw[afe,CT,ag],grownCap_ge ..,?_⟩;have h2:=g.2 r ti av (by rw[aw];exact rc q.1) (rc q.2) z hz F.toArray b0;rw[h2,CV _ _ (F++m++(Builtin.zeroCells z.cells (grownCap w (len+n) E e - (len+n))).toList) _ aC];rfl
   split at he;·rename_i I;simp only[aas,acn]at he;obtain⟨rfl,rfl⟩:=he;have ca:=q3 I;obtain⟨f,r1,r2,r3⟩:=M ab;obtain⟨p1,p2,p3⟩:=uU (P:=P) (w:=w.drew) D.drew eG e ((len+n)*size) p f;refine⟨_,_,r3,_,p1,?_,p2.uO rfl,(u.trans p3).uO rfl rfl rfl rfl⟩;simp only[VR];refine⟨trivial,aeq _,r2,(λh=>by cases h),_,_,aQ.dW ..,λ_=>rfl,λ_=>?_⟩;rw[aQ.pR];simp only[t,afc,aex (as:=F++m),r1,<-L,<-p];rw[Nat.sub_mul];have:=aeV size r2;omega
   rename_i I;have I:ex=false:=by simpa using I
   subst I;split at he;case isFalse=>cases he
   rename_i N;simp only[aew]at N;obtain⟨⟨⟨⟨b3,W⟩,T⟩,X⟩,ax⟩:=N;subst b3;have W:=aey W;have T:=aey T;have X:=(aey X).symm;have ax:=aeG ax;subst W;subst X;simp only[aas,acn]at he;obtain⟨rfl,rfl⟩:=he;have ay:H.get id≠.none:=by rw[hi];simp
   obtain⟨cn,x',ob,e',cd,Q,R⟩:=D.be ay;rw[hb]at e';injection e' with e';injection e' with e1 b4;subst e1;subst b4;have i:=D.im id cp G ob ay hb Q;rw[hi]at R i;cases ob with
   |cells cs el fr=>
    simp only[OR]at R;simp only[ef,t,afc]at i;obtain⟨o1,o2,o3,o4⟩:=R;have O:=q5 rfl;rw[i]at O;simp only at O;by_cases B:len+n<=E
    .have a6:E≠0:=ab;have:=q4 a6;subst this;have a8:=aeV size B;rw[agh]at a8;have cf:m.length=n*size:=ab;have cz:=Gr (P:=P) w Q (G+off+len*size) m ab (λj b6 Y=>o4 trivial j ab ab) (aR.CN hl K);obtain⟨f1,f2,f3,f4⟩:=CM cp el fr m w cs (G+off+len*size) Q;have Z:=zE (len*size) c mm off cM eZ;obtain⟨p1,p2,p3⟩:=D.Gs (w':=w.setCells cp (G+off+len*size) m) hi hb (c2:=bX (cM++l)) (n2:=(len+n)*size) (e2:=e) (fz2:=fz - off) (b2:=cp) (x2:=G+off) (ob2:=.cells (wr cs (G+off+len*size) m) el fr) (ρ.k cp) (by simp only[ef,pU,t,afc];exact i) (λ_=>rfl) (by
      simp only[OR];refine⟨o1,by rw[pU,agh];omega,λj hj=>?_,λ_ j b6 Y=>o4 trivial j ab (by rw[pU]at Y;exact Y)⟩;have C:bR ρ (ρ.add H.next cp (G+off) (ρ.k cp)):=aQ.pS _ _ _ (D.dD _ (aeq _)).2 (λ_ _ _ _ hc=>by rw[<-hc]);rw[lW _ _ ab,xn _ _ _ _ ab];by_cases b7:j<len*size;·rw[ap ab];obtain⟨y,hy,J⟩:=o3 (off+j) ab;refine⟨y,by rw[<-hy];congr 1;omega,VR.mono C _ _ ?_⟩;simp only[agt];rw[aeM ab,Z.2.2 j b7];exact J
      rw[aH (by rw[agh]at hj;omega)];have a1:j - len*size<l.length:=by rw[agh]at hj;omega
      obtain⟨y,hy,J⟩:=aR.get hl (j - len*size) l[j - len*size] (by simp[a1]);refine⟨y,by rw[<-hy];congr 1;omega,VR.mono C _ _ ?_⟩;simp only[agt];rw[afn ab,g2,afo a1];exact J) f2 f3 f4 (.inr ⟨rfl,f1,by rw[agh];omega,cs,_,el,fr,Q,rfl,pU ..,λj hj=>by rw[xn _ _ _ _ ab,ap ab]⟩);refine⟨_,_,g.1 B _ (by simp only[pT];exact cz),_,p1,?_,p2,p3⟩;simp only[VR];refine⟨trivial,aeq _,B,(λh=>by cases h),_,_,aQ.dW ..,λ_=>by simp,λ_=>?_⟩;rw[aQ.pR,i];simp only;omega
    obtain⟨f,r1,r2,r3⟩:=M B;obtain⟨p1,p2,p3⟩:=D.drew.Gs (w':={w.drew with heap:=w.heap.push (.cells (F++m++f).toArray e (0,0))}) hi hb (c2:=bX (cM++l)) (n2:=(len+n)*size) (e2:=e) (fz2:=fz - off) (b2:=w.heap.size) (x2:=0) (ob2:=.cells (F++m++f).toArray e (0,0)) ((F++m++f).length,size) (by simp only[ef,t,afc,List.size_toArray]) (λh=>by omega) (by
     simp only[OR];refine⟨trivial,by rw[List.size_toArray,aex (as:=F++m),<-L];omega,λj hj=>?_,λ_ j _ _=>by omega⟩;have C:bR ρ (ρ.add H.next w.heap.size 0 ((F++m++f).length,size)):=aQ.pS _ _ _ (D.dD _ (aeq _)).2 (λj' c' y' e' hc=>by have:=D.dU j' c' y' e';omega);rw[lW _ _ ab];have a2:j<(cM++l).length:=ab;obtain⟨y,hy,J⟩:=aR.get eG j (cM++l)[j] (by simp only[afo a2]);refine⟨y,?_,VR.mono C _ _ ?_⟩;·rw[aeL,List.getElem?_toArray,aeM ab];exact hy
     simp only[agt];rw[afo a2];exact J) rfl rfl rfl (.inl ⟨rfl,rfl⟩);refine⟨_,_,r3,_,p1,?_,p2,u.trans p3⟩;simp only[VR];refine⟨trivial,aeq _,r2,(λh=>by cases h),_,_,aQ.dW ..,λ_=>rfl,λ_=>?_⟩;rw[aQ.pR];simp only[aex (as:=F++m),r1,<-L,<-p];rw[Nat.sub_mul];have:=aeV size r2;omega
   |_=>simp[OR]at R
  cases he
 cases he
end
section
variable{P:Program}{b:bS}{ρ:aQ}{H H':ai}{w:World}{nt:Nat}{aa:am AV}{a:Act}{o:Oper}{ao:bC}{v:AV}
theorem Oq(h:cO P b ρ H w nt aa a){c:Call}(W:o.op=.call c)(hb:c.callee=.builtin .append)(f:bG P nt o=some ao)(he:aE ao aa H=some (v,H')):bo P b ρ w (execOp a.eval o) v H':=by
 simp only[bG,W,hb,aep,aaw]at f;obtain⟨t,Z,d,hd,f⟩:=f;obtain⟨G,N⟩:=qZ (P:=P) (a:=a) W hb w;split at f
 .rename_i e;simp only[aaw]at f;obtain⟨size,O,z,hz,f⟩:=f;split at f;·cases f
  rename_i j;have g:z.cells.length=size/\size≠0/\c.args.size=2:=by simpa[not_or]using j
  have j:z.cells.length=size/\size≠0:=⟨g.1,g.2.1⟩;have Q:=g.2.2;simp only[aaw,aet,aas]at f;obtain⟨xT,q,d2,r,R,s,os,⟨X,S,B⟩,ox,⟨J,T,C⟩,rfl⟩:=f;obtain⟨zv,u,x,y⟩:=pW hz;have A:zv.cells.size=size:=by have:=aR.length (VR.cells (x ρ) y);simp at this;omega
  have gs:=h.gv B;have K:=h.gv C;have p:c.args.map a.eval= #[a.eval X,a.eval J]:=by apply agf;intro i;match i with|0=>simp[S]|1=>simp[T]|i+2=>rw[ae3 (by simp[Q]),ae3 aC]
  have D:(execOp a.eval o).run P w=((Builtin.append_ c.argTypes o.type #[a.eval X,a.eval J]).run P w).andThen λv w=>.ok (.value v) w:=by rw[N];simp only[builtin,p,Sem.run_bind,Sem.run_pure]
  have aA:∀{n:Nat}{l:List AV}{m:List Value},rf P w c.argTypes e size (a.eval J) n m->aR ρ l m->l.length=n*size->iK e R size H (gv aa os) n l=some (v,H')->bo P b ρ w (execOp a.eval o) v H':=by intro n l m E hl F he;obtain⟨c',w',L,M⟩:=Oo (ty:=o.type) h.I gs E hl F Z hd O s u A he;exact bo.val (by rw[D,L];rfl) M
  simp only[aE]at he;split at he
  .simp only[bc]at he;split at he
   .rename_i n hv;split at he;·rename_i hs;simp only[aew]at hs;rw[hv]at K;obtain⟨k',ag,hx⟩:=K.hZ;rw[hx]at aA;refine aA (rf.On q r s (rc hs.1) (rc hs.2) u A) (zM (VR.cells (x ρ) y) n ab) (by rw[xz,j.1]) he
    cases he
   cases he
  rename_i hm;simp only[abu,bA]at he;split at he;·rename_i n l V;obtain⟨ms,L,M,k3,Y⟩:=CU (P:=P) h.I K V;exact aA (rf.Om q r (λk e=>hm k e) k3 (Y _ rfl) (Y _ rfl)) L M he
  cases he
 cases f
theorem Ot(h:cO P b ρ H w nt aa a){c:Call}(ho:o.op=.call c)(hb:c.callee=.builtin .copy)(u:bG P nt o=some ao)(he:aE ao aa H=some (v,H')):bo P b ρ w (execOp a.eval o) v H':=by
 simp only[bG,ho,hb,aep,aaw]at u;obtain⟨t,X,d,hd,u⟩:=u;obtain⟨W,y⟩:=qZ (P:=P) (a:=a) ho hb w;split at u
 .rename_i e;simp only[aaw,aet,aas]at u;obtain⟨size,A,od,⟨yd,ag,M⟩,os,⟨J,av,N⟩,rfl⟩:=u;have Q:=h.gv M;have j:=h.gv N;have B:(c.args.map a.eval)[0]?=some (a.eval yd):=by simp[ag]
  have C:(c.args.map a.eval)[1]?=some (a.eval J):=by simp[av]
  simp only[aE]at he;split at he
  .rename_i p Y k;obtain⟨n,l⟩:=p;simp only[aas,acn]at he;obtain⟨rfl,rfl⟩:=he;rw[Y]at Q;have R:=Q.kz;obtain⟨G,Z,k2,S,T⟩:=CU (P:=P) h.I j k;have aw:(Builtin.firstCells size 0 (a.eval J)).run P w=.ok #[] w:=by have:=T w rfl;revert this;cases a.eval J with|slice cv l c=>cases cv<;>simp[Builtin.firstCells,loadCells,loadCellsFrom]|string s=>intro _;simp[Builtin.firstCells]|_=>simp[Builtin.firstCells]
   refine bo.val (c:=goInt 0) (w':=w) ?_ (b9.bL h.I (VR.goInt ρ 0));rw[y];simp[builtin,Builtin.copy_,X,bJ hd,B,C,R,S,gN A,aw]
  .rename_i id off len cap ex n l Y k;rw[Y]at Q;obtain⟨ad,cp,R,q1,q2,q3,cv,z,ax,q4,q5⟩:=Q.lx;obtain⟨G,Z,k2,S,T⟩:=CU (P:=P) h.I j k;have g:(Builtin.firstCells size (min n len) (a.eval J)).run P w=.ok (G.take (min n len*size)).toArray w:=by
    have:=T w rfl;have bv:=aR.length Z;revert this;cases m:a.eval J with
    |slice bd ll cc=>
     cases bd with
     |none=>
      simp only[Builtin.firstCells,Sem.run_pure,Result.ok.injEq,and_true];intro h;have:G=[]:=by simpa using h.symm
      subst this;simp
     |some b0=>
      intro _;rw[m]at j;have f:=k;unfold fB at f;split at f;·rename_i x;rw[x]at j;have:=j.kz;cases this
      .rename_i ay q a' ba b3 x;rw[x]at j;obtain⟨b4,b6,e3,r1,r2,r3,cf,z3,a1,r4,r5⟩:=j.lx;simp only[Value.slice.injEq,aas]at e3;obtain⟨rfl,rfl,rfl⟩:=e3;split at f
       .rename_i l' r;simp only[aas,acn]at f;obtain⟨rfl,rfl⟩:=f;simp only[Builtin.firstCells];unfold du at r;split at r
        .rename_i c3 n3 e4 b7 bb b' K;have i:=T w rfl;rw[m]at i;simp only[Builtin.firstCells]at i;rcases af6 (min n3 0+min ll len*size)with h0|h0;·have:min ll len*size=0:=ab;rw[this];simp[loadCells,loadCellsFrom]
         have a2:min ll len*size≠0:=ab;have ca:ll≠0:=by intro e;subst e;simp at a2
         have:=r4 ab;subst this;obtain⟨cn,x',ob,V,cd,L,D⟩:=h.I.be (i:=ay) (by rw[K];simp);rw[a1]at V;injection V with V;injection V with e1 e2;subst e1;subst e2;rw[K]at D;cases ob with
         |cells cs el fr=>
          obtain⟨w1,w2⟩:=zF D r;have O:min ll len*size<=ll*size:=aeV size (Nat.min_le_left _ _);have a6:=w2 ab;have e5:=xm (P:=P) w L (z3+q) (ll*size) a6;rw[i]at e5;simp only[Result.ok.injEq,and_true]at e5;have e6:G=List.take (ll*size) (List.drop (z3+q) cs.toList):=by simpa using e5
          rw[xm (P:=P) w L (z3+q) (min ll len*size) ab,e6,List.take_take,af7 O]
         |_=>simp[OR]at D
        cases r
       cases f
      .rename_i x;rw[x]at j;obtain⟨t,_,e⟩:=j.ky;cases e
      cases f
    |string s=>
     simp only[Builtin.firstCells,Sem.run_pure,Result.ok.injEq,and_true];intro x;rw[m]at j;have f:=k;unfold fB at f;split at f;·rename_i E;rw[E]at j;have:=j.kz;cases this
     .rename_i E;rw[E]at j;obtain⟨_,_,e,_⟩:=j.lx;cases e
     .split at f
      .rename_i F;have F:=aey F;subst F;have e6:G=((s.extract 0 n).data.map λcv=>Value.int .u8 cv.toNat).toList:=by rw[x]
       rw[e6,af0];apply Array.toList_inj.1;simp only[Array.toList_map,ByteArray.data_extract,Array.toList_extract,List.extract_eq_drop_take,agm,ago];rw[<-List.map_take,List.take_take];congr 2;omega
      cases f
     cases f
    |_=>simp[Builtin.firstCells]
   split at he;·rename_i hm;simp only[aas,acn]at he;obtain⟨rfl,rfl⟩:=he;rw[hm]at g;refine bo.val (c:=goInt 0) (w':=w) ?_ (b9.bL h.I (VR.goInt ρ 0));have a8:Nat.min n len=0:=hm;rw[y];simp[builtin,Builtin.copy_,X,bJ hd,B,C,R,S,gN A,a8,g,storeCells]
   rename_i hm;split at he;·rename_i H2 hw;simp only[aas,acn]at he;obtain⟨rfl,rfl⟩:=he;have:=q4 ab;subst this;obtain⟨p1,p2,p3⟩:=xp h.I hw ax (aR.take (min n len*size) Z);refine bo.val (c:=goInt ((min n len:Nat):Int)) (w':=w.setCells cv (z+off) (G.take (min n len*size))) ?_ ⟨ρ,bR.refl ρ,VR.goInt ρ _,p2,p3⟩;rw[y];simp only[builtin,Builtin.copy_,X,B,C,Sem.run_bind,bJ hd,Result.andThen_ok,R,S,gN A];rw[show Nat.min n len=min n len from rfl,g];simp[p1]
   cases he
  cases he
 cases u
theorem Ou(h:cO P b ρ H w nt aa a){c:Call}(M:o.op=.call c)(hb:c.callee=.builtin .clear){O:List AV}{x:aK}(J:ao=.ur O x)(f:bG P nt o=some ao)(he:aE ao aa H=some (v,H')):bo P b ρ w (execOp a.eval o) v H':=by
 simp only[bG,M,hb,aep,aaw]at f;obtain⟨t,C,d,hd,f⟩:=f;obtain⟨E,g⟩:=qZ (P:=P) (a:=a) M hb w;split at f
 .rename_i e;simp only[aaw,aet,aas]at f;obtain⟨z,Q,V,⟨R,K,A⟩,rfl⟩:=f;obtain⟨zv,p,q,r⟩:=pW Q;have D:=h.gv A;have i:(c.args.map a.eval)[0]?=some (a.eval R):=by simp[K]
  simp only[aE]at he;split at he;·rename_i F;simp only[aas,acn]at he;obtain⟨rfl,rfl⟩:=he;rw[F]at D;have l:=D.kz;refine bo.val (c:=.tuple #[]) (w':=w) ?_ (b9.bL h.I (VR.agx ρ));rw[g];simp[builtin,Builtin.clear_,C,i,bJ hd,l]
  .rename_i id off n cap ex F;rw[F]at D;obtain⟨ad,W,l,X,Y,Z,ag,y,s,S,q5⟩:=D.lx;split at he;·rename_i N;simp only[aas,acn]at he;obtain⟨rfl,rfl⟩:=he;subst N;refine bo.val (c:=.tuple #[]) (w':=w) ?_ (b9.bL h.I (VR.agx ρ));rw[g];simp[builtin,Builtin.clear_,C,i,bJ hd,l]
   rename_i N;split at he
   .rename_i H2 G;simp only[aas,acn]at he;obtain⟨rfl,rfl⟩:=he;have:=S ab;subst this;by_cases u:z.cells.length=0
    .have B:z.cells=[]:=List.length_eq_zero_iff.1 u;have k:∀n,ep z.cells n=[]:=by intro n;rw[B];induction n with|zero=>rfl|succ n T=>simp[ep,T]
     rw[k]at G;have L:zv.cells.size=0:=by have:=aR.length (VR.cells (q ρ) r);simp at this;omega
     obtain⟨p1,p2,p3⟩:=xp h.I G s (m:=[]) (by simp[aR]);refine bo.val (c:=.tuple #[]) (w':=w.setCells ag (y+off) []) ?_ ⟨ρ,bR.refl ρ,VR.agx ρ,p2,p3⟩;rw[g];have j:(Builtin.zeroCells zv.cells n).toList=[]:=by apply List.length_eq_zero_iff.1;rw[afe,CT,L];omega
     obtain⟨m,rfl⟩:∃m,n=m+1:=⟨n - 1,ab⟩;simp[builtin,Builtin.clear_,C,i,bJ hd,l,p,j,p1]
    obtain⟨p1,p2,p3⟩:=xp h.I G s (zM (VR.cells (q ρ) r) n u);refine bo.val (c:=.tuple #[]) (w':=w.setCells ag (y+off) ((ags (n*zv.cells.size)).map (zv.cells[·% zv.cells.size]!)).toList) ?_ ⟨ρ,bR.refl ρ,VR.agx ρ,p2,p3⟩;rw[g];have j:(Builtin.zeroCells zv.cells n).toList=((ags (n*zv.cells.size)).map (zv.cells[·% zv.cells.size]!)).toList:=rfl;obtain⟨m,rfl⟩:∃m,n=m+1:=⟨n - 1,ab⟩;simp only[builtin,Builtin.clear_,C,i,Sem.run_bind,bJ hd,Result.andThen_ok,l,p,j,p1,Sem.run_pure]
   cases he
  cases he
 all_goals(try(cases f;done))
 simp only[aaw,aet,aas]at f;obtain⟨_,_,f⟩:=f;rw[J]at f;cases f
end
section
variable{P:Program}{b:bS}{ρ:aQ}{H H':ai}{w:World}{nt:Nat}{aa:am AV}{a:Act}{o:Oper}{ao:bC}{v:AV}
def CW(P:Program)(ρ:aQ)(f:Nat):Prop:=∀{const:Bool}{t:TypeId}{d:cY},gW P f const t=some d->∀{g:Nat}{x y:AV}{r:Bool},cQ g d x y=some r->
 ∀{c e:Value},VR ρ x c->VR ρ y e->∀(n:Nat)(w:World),f<=n->(Op.equalIn n t c e).run P w=.ok r w
theorem GJ{f:Nat}(i:CW P ρ f){t u:List AV}{z A:Array Value}(B:aR ρ t z.toList)(C:aR ρ u A.toList)(n:Nat)(w:World)(j:f<=n):∀(h:List Field)(l:List (Nat×Nat×Bool×cY))(g:Nat)(r:Bool),(h.mapM λ(g:Field)=>if g.name= "_" then none else match gW P f false g.type,dV P g.type,lu P g.type with|some d,some s,some a=>some (g.offset,s,a,d)|_,_,_=>none)=some l->cQ.go g t u l=some r->(Op.eqFields n z A h).run P w=.ok r w
 |[],l,g,r,h1,h2=>by simp only[List.mapM_nil,aet,aas]at h1;subst h1;unfold cQ.go at h2;simp only[aas]at h2;subst h2;simp[Op.eqFields]
 |K::h,l,g,r,h1,h2=>by
  simp only[agd,aep,aaw,aet,aas]at h1;obtain⟨p,c,G,k,rfl⟩:=h1;split at c;·cases c
  rename_i e;split at c
  .rename_i d s a hd hs D;injection c with c;subst c;cases g with
   |zero=>simp[cQ.go]at h2
   |succ g=>
    simp only[cQ.go]at h2;split at h2
    .rename_i x y m q;obtain⟨L,I,E⟩:=qY (P:=P) (w:=w) B D hs m;obtain⟨M,J,F⟩:=qY (P:=P) (w:=w) C D hs q;simp only[Op.eqFields,e,ne_eq,not_false_eq_true,bc,Sem.run_bind,I,J,Result.andThen_ok];split at h2;·rename_i he;rw[i hd he E F n w j];simp only[Result.andThen_ok,aeY,abu,bA];exact GJ i B C n w j h G g r k h2
     .rename_i he;injection h2 with h2;subst h2;rw[i hd he E F n w j];simp
     cases h2
    cases h2
  cases c
theorem GK{f:Nat}(c:CW P ρ f){m p:List AV}{q t:Array Value}(u:aR ρ m q.toList)(z:aR ρ p t.toList)(n:Nat)(w:World)(h:f<=n){e:TypeId}{s:Nat}{a:Bool}{d:cY}(hd:gW P f false e=some d)(hs:dV P e=some s)(j:lu P e=some a):∀(is:List Nat)(g:Nat)(r:Bool),cQ.go g m p (is.map λi=>(i*s,s,a,d))=some r->(Op.eqItems n e s q t is).run P w=.ok r w
 |[],g,r,h2=>by simp only[afC]at h2;unfold cQ.go at h2;simp only[aas]at h2;subst h2;simp[Op.eqItems]
 |i::is,g,r,h2=>by
  cases g with
  |zero=>simp[cQ.go]at h2
  |succ g=>
   simp only[aez,cQ.go]at h2;split at h2
   .rename_i x y k l;obtain⟨E,C,A⟩:=qY (P:=P) (w:=w) u j hs k;obtain⟨F,D,B⟩:=qY (P:=P) (w:=w) z j hs l;simp only[Op.eqItems,Sem.run_bind,C,D,Result.andThen_ok];split at h2;·rename_i he;rw[c hd he A B n w h];simp only[Result.andThen_ok,aeY,abu,bA];exact GK c u z n w h hd hs j is g r h2
    .rename_i he;injection h2 with h2;subst h2;rw[c hd he A B n w h];simp
    cases h2
   cases h2
set_option maxHeartbeats 1000000 in theorem zP(ρ:aQ)(f:Nat):CW P ρ f:=by
 induction f with
 |zero=>intro const t d h;simp[gW]at h
 |succ f N=>
  intro const t d h g x y r he Y Z c k n w hn;cases n with
  |zero=>omega
  |succ n=>
   have E:f<=n:=ab;unfold gW at h;split at h;all_goals(rename_i hu)
   .injection h with h;subst h;unfold cQ at he;split at he<;>(try(rename_i m;cases m;done))<;>(try(cases he;done));injection he with he;rw[c.nK,k.nK,<-he];exact run_equalIn_bool' w n t _ _ hu
   .injection h with h;subst h;unfold cQ at he;split at he<;>(try(rename_i m;cases m;done))<;>(try(cases he;done));split at he;·rename_i Q;injection he with he;obtain⟨k1,h1,rfl⟩:=c.hZ;obtain⟨k2,h2,rfl⟩:=k.hZ;have:=sN (h1.symm.trans (Q.trans h2));subst this;rw[<-he,eU];exact run_equalIn_int w n t _ _ _ _ hu
    cases he
   .injection h with h;subst h;unfold cQ at he;split at he<;>(try(rename_i m;cases m;done))<;>(try(cases he;done));injection he with he;obtain⟨t1,h1,rfl⟩:=c.ky;obtain⟨O,h2,rfl⟩:=k.ky;subst h1;subst h2;rw[<-he,<-Gy];exact run_equalIn_string w n t _ _ hu
   .split at h
    .rename_i s0 K;injection h with h;subst h;unfold cQ at he;split at he<;>(try(rename_i m;cases m;done))<;>(try(cases he;done));·injection he with he;subst he;rw[c.zH,k.zH];simp[Op.equalIn,bJ hu]
     .injection he with he;subst he;obtain⟨ag,z,h1,h2⟩:=k.kT;rw[c.zH,h2];simp[Op.equalIn,bJ hu]
     .injection he with he;subst he;obtain⟨ag,z,h1,h2⟩:=c.kT;rw[k.zH,h2];simp[Op.equalIn,bJ hu]
     rename_i _ i _ j _;split at he
     .rename_i hb;have hb:=af.fo.1 hb;subst hb;injection he with he;obtain⟨ag,z,h1,rfl⟩:=c.kT;obtain⟨b',z',u,rfl⟩:=k.kT;rw[h1]at u;injection u with u;injection u with R S;subst R;subst S;simp only[Op.equalIn,Sem.run_bind,bJ hu,Result.andThen_ok,gN K];rw[<-he];have:((⟨ag,z+i,none⟩:Addr)==⟨ag,z+j,none⟩)=aeF i j:=by
       rw[afy,beq_iff_eq,Addr.mk.injEq];constructor;·intro h;have:i=j:=ab;subst this;exact afM _
       intro h;have:=aey h;subst this;simp
      simp[sameAddr,this]
     cases he
    cases h
   .injection h with h;subst h;unfold cQ at he;split at he<;>(try(rename_i m;cases m;done))<;>(try(cases he;done));all_goals injection he with he;subst he
    .rw[c.kz,k.kz];simp[Op.equalIn,bJ hu]
    .obtain⟨ad,T,h1,_⟩:=k.lx;rw[c.kz,h1];simp[Op.equalIn,bJ hu]
    obtain⟨ad,T,h1,_⟩:=c.lx;rw[k.kz,h1];simp[Op.equalIn,bJ hu]
   .injection h with h;subst h;unfold cQ at he;split at he<;>(try(rename_i m;cases m;done))<;>(try(cases he;done));all_goals injection he with he;subst he
    .rw[c.pV,k.pV];simp[Op.equalIn,bJ hu]
    .obtain⟨ag,_,h1⟩:=k.ly;rw[c.pV,h1];simp[Op.equalIn,bJ hu]
    obtain⟨ag,_,h1⟩:=c.ly;rw[k.pV,h1];simp[Op.equalIn,bJ hu]
   .injection h with h;subst h;unfold cQ at he;split at he<;>(try(rename_i m;cases m;done))<;>(try(cases he;done));all_goals injection he with he;subst he
    .rw[c.uQ,k.uQ];simp[Op.equalIn,bJ hu]
    .obtain⟨p,q,_,_,h1⟩:=k.zI;rw[c.uQ,h1];simp[Op.equalIn,bJ hu]
    .obtain⟨p,q,_,_,h1⟩:=c.zI;rw[k.uQ,h1];simp[Op.equalIn,bJ hu]
    .obtain⟨p,q,h1⟩:=k.zJ;rw[c.uQ,h1];simp[Op.equalIn,bJ hu]
    obtain⟨p,q,h1⟩:=c.zJ;rw[k.uQ,h1];simp[Op.equalIn,bJ hu]
   .injection h with h;subst h;unfold cQ at he;split at he<;>(try(rename_i m;cases m;done))<;>(try(cases he;done))
    .split at he;·injection he with he;subst he;rw[c.xw,k.xw];simp[Op.equalIn,bJ hu]
     cases he
    .injection he with he;subst he;obtain⟨p,_,h1⟩:=k.uP;rw[c.xw,h1];simp[Op.equalIn,bJ hu]
    .injection he with he;subst he;obtain⟨p,_,h1⟩:=c.uP;rw[k.xw,h1];simp[Op.equalIn,bJ hu]
    rename_i t1 _ O _ _;split at he;·cases he
    rename_i L;injection he with he;subst he;obtain⟨p,_,rfl⟩:=c.uP;obtain⟨q,_,rfl⟩:=k.uP;have:¬t1=O:=λe=>L (by subst e;exact afM _);simp only[Op.equalIn,Sem.run_bind,bJ hu,Result.andThen_ok,ne_eq,this,not_false_eq_true,bc,Sem.run_pure]
   .split at h;·cases h
    rename_i cz;rw[aes]at h;obtain⟨l,hl,rfl⟩:=h;unfold cQ at he;split at he<;>(try(rename_i m;cases m;done))<;>(try(cases he;done));rename_i A;cases A;obtain⟨I,B,rfl⟩:=c.oU;obtain⟨J,C,rfl⟩:=k.oU;have D:=congrArg (λ(o:Option TypeDesc)=>match o with|some (.struct V)=>V|_=> #[]) hu;change P.fieldsOf t=_ at D;rw[run_equalIn_struct w n t I J (by rw[hu,D]) (by simpa using cz),D];exact GJ N B C n w E _ _ _ _ hl he
   .split at h;·rename_i d s a hd hs W;injection h with h;subst h;unfold cQ at he;split at he<;>(try(rename_i m;cases m;done))<;>(try(cases he;done));rename_i A;cases A;obtain⟨I,B,rfl⟩:=c.oU;obtain⟨J,C,rfl⟩:=k.oU;obtain⟨X,F,M⟩:=Gt hs;rw[run_equalIn_array w n I J hu F];have G:=congrArg (λ(o:Option TypeInfo)=>(o.map (·.size)).getD 0) F;change P.cellsOf _=_ at G;rw[G,show(Option.map (λi:TypeInfo=>i.size) (some X)).getD 0=s from M];exact GK N B C n w E hd hs W _ _ _ he
    cases h
   cases h
end
section
variable{P:Program}{b:bS}{ρ:aQ}{H H':ai}{w:World}{nt:Nat}{aa:am AV}{a:Act}{o:Oper}{ao:bC}{v:AV}
def CX(P:Program)(ρ:aQ)(em:Bool)(f:Nat):Prop:=∀{const:Bool}{t:TypeId}{d:cY},gW P f const t=some d->∀{g:Nat}{x:AV},mz g d x=true->
 ∀{c:Value},VR ρ x c->∀(n:Nat)(w:World),f<=n->(Instr.checkKey em n t c).run P w=.ok () w
theorem GL{em:Bool}{f:Nat}(k:CX P ρ em f){m:List AV}{q:Array Value}(t:aR ρ m q.toList)(n:Nat)(w:World)(u:f<=n):∀(h:List Field)(l:List (Nat×Nat×Bool×cY))(g:Nat),(h.mapM λ(g:Field)=>if g.name= "_" then none else match gW P f false g.type,dV P g.type,lu P g.type with|some d,some s,some a=>some (g.offset,s,a,d)|_,_,_=>none)=some l->mz.go g m l=true->(forIn h PUnit.unit λ(f:Field)r=>(if f.name≠ "_" then(do(Instr.checkKey em n f.type (<-part f.type q f.offset));pure (ForInStep.yield PUnit.unit))else pure (ForInStep.yield PUnit.unit):Sem (ForInStep PUnit))).run P w=.ok PUnit.unit w
 |[],l,g,h1,h2=>by simp
 |D::h,l,g,h1,h2=>by
  simp only[agd,aep,aaw,aet,aas]at h1;obtain⟨p,c,z,i,rfl⟩:=h1;split at c;·cases c
  rename_i e;split at c
  .rename_i d s a hd hs A;injection c with c;subst c;cases g with
   |zero=>simp[mz.go]at h2
   |succ g=>
    simp only[mz.go]at h2;split at h2;·rename_i x j;simp only[aew]at h2;obtain⟨E,B,C⟩:=qY (P:=P) (w:=w) t A hs j;have h3:=k hd h2.1 C n w u;have y:=GL k t n w u h z g i h2.2;simp only[List.forIn_cons,Sem.run_bind,ne_eq,e,not_false_eq_true,bc,B,h3,Result.andThen_ok,Sem.run_pure]at y⊢;exact y
    cases h2
  cases c
theorem GM{em:Bool}{f:Nat}(h:CX P ρ em f){j:List AV}{k:Array Value}(l:aR ρ j k.toList)(n:Nat)(w:World)(m:f<=n){e:TypeId}{s:Nat}{a:Bool}{d:cY}(hd:gW P f false e=some d)(hs:dV P e=some s)(p:lu P e=some a):∀(is:List Nat)(g:Nat),mz.go g j (is.map λi=>(i*s,s,a,d))=true->(forIn is PUnit.unit λ(i:Nat)r=>(do(Instr.checkKey em n e (<-part e k (i*(<-sizeOf e))));pure (ForInStep.yield PUnit.unit):Sem (ForInStep PUnit))).run P w=.ok PUnit.unit w
 |[],g,h2=>by simp
 |i::is,g,h2=>by
  cases g with
  |zero=>simp[mz.go]at h2
  |succ g=>
   simp only[aez,mz.go]at h2;split at h2;·rename_i x c;simp only[aew]at h2;obtain⟨y,t,u⟩:=qY (P:=P) (w:=w) l p hs c;have h3:=h hd h2.1 u n w m;have q:=GM h l n w m hd hs p is g h2.2;simp only[List.forIn_cons,Sem.run_bind,gN hs,t,h3,Result.andThen_ok,Sem.run_pure]at q⊢;exact q
   cases h2
theorem Ow(ρ:aQ)(em:Bool)(f:Nat):CX P ρ em f:=by
 induction f with
 |zero=>intro const t d h;simp[gW]at h
 |succ f m=>
  intro const t d h g x he u p n w y;cases n with
  |zero=>omega
  |succ n=>
   have i:f<=n:=ab;unfold gW at h;split at h;all_goals(rename_i hu)
   .simp[Instr.checkKey,bJ hu]
   .simp[Instr.checkKey,bJ hu]
   .simp[Instr.checkKey,bJ hu]
   .simp[Instr.checkKey,bJ hu]
   .simp[Instr.checkKey,bJ hu]
   .simp[Instr.checkKey,bJ hu]
   .simp[Instr.checkKey,bJ hu]
   .injection h with h;subst h;unfold mz at he;cases x<;>cases he
   .split at h;·cases h
    rw[aes]at h;obtain⟨l,hl,rfl⟩:=h;unfold mz at he;split at he<;>(try(rename_i k;cases k;done))<;>(try(cases he;done));rename_i c;cases c;obtain⟨q,e,rfl⟩:=p.oU;have j:=GL m e n w i _ _ _ hl he;simp only[Instr.checkKey,Sem.run_bind,bJ hu,Result.andThen_ok,<-Array.forIn_toList];rw[j];rfl
   .split at h;·rename_i d s a hd hs r;injection h with h;subst h;unfold mz at he;split at he<;>(try(rename_i k;cases k;done))<;>(try(cases he;done));rename_i c;cases c;obtain⟨q,e,rfl⟩:=p.oU;have j:=GM m e n w i hd hs r _ _ he;simp only[Instr.checkKey,Sem.run_bind,bJ hu,Result.andThen_ok];simp only[Std.Legacy.Range.forIn_eq_forIn_range',Std.Legacy.Range.size,ago,Nat.add_one_sub_one,Nat.div_one];rw[List.range_eq_range']at j;rw[j];rfl
    cases h
   cases h
theorem CY{t:TypeId}{d:cY}(h:oP P t=some d):∃kd,P.underlying t=some kd/\gW P 16 false t=some d/\((kd=.bool/\d=.bool)\/(∃k,kd=.int k/\d=.int)\/(kd=.string/\d=.str)\/∃l,d=.dw l):=by
 unfold oP at h;split at h;all_goals(try(cases h;done))
 all_goals(rename_i hu;refine⟨_,hu,h,?_⟩)
 all_goals unfold gW at h;simp only[hu]at h
 .injection h with h;exact .inr (.inl ⟨_,rfl,h.symm⟩)
 .injection h with h;exact .inr (.inr (.inl ⟨rfl,h.symm⟩))
 .injection h with h;exact .inl ⟨rfl,h.symm⟩
 .split at h;·cases h
  rw[aes]at h;obtain⟨l,_,h⟩:=h;exact .inr (.inr (.inr ⟨l,h.symm⟩))
 split at h;·injection h with h;exact .inr (.inr (.inr ⟨_,h.symm⟩))
 cases h
theorem CZ{t:TypeId}{kd:TypeDesc}(hu:P.underlying t=some kd)(c:kd=.bool\/(∃k,kd=.int k)\/kd=.string)(em:Bool)(n:Nat)(x:Value)(w:World):(Instr.checkKey em (n+1) t x).run P w=.ok () w:=by rcases c with rfl|⟨k,rfl⟩|rfl<;>simp[Instr.checkKey,bJ hu]
theorem zQ{t:TypeId}{d:cY}(h:oP P t=some d){k:AV}(c:gB d k=true){kv:Value}(e:VR ρ k kv)(em:Bool)(w:World):(Instr.checkKey em 10000 t kv).run P w=.ok () w:=by
 obtain⟨kd,hu,he,hd⟩:=CY h;rcases hd with⟨rfl,rfl⟩|⟨f,rfl,rfl⟩|⟨rfl,rfl⟩|⟨l,rfl⟩;·exact CZ hu (.inl rfl) em 9999 kv w
 .exact CZ hu (.inr (.inl ⟨_,rfl⟩)) em 9999 kv w
 .exact CZ hu (.inr (.inr rfl)) em 9999 kv w
 exact Ow ρ em 16 he c e 10000 w ab
def FR(ρ:aQ)(n:Nat):Option (Nat×AV)->Option (Nat×Value)->Prop
 |none,none=>True
 |some (i,v),some (j,c)=>i=j/\VR ρ v c/\i<n
 |_,_=>False
theorem GN{t:TypeId}{d:cY}(h:gW P 16 false t=some d){k:AV}{kv:Value}(g:VR ρ k kv)(w:World):∀(es:List aV)(bi:List MapEntry)(i:Nat)(r:Option (Nat×AV)),bf ρ es bi->findKey d k es i=some r->∃f,(Instr.findAsking t kv bi i).run P w=.ok f w/\FR ρ (i+es.length) r f
 |[],[],i,r,_,h2=>by simp only[findKey,aas]at h2;subst h2;exact⟨none,by simp[Instr.findAsking],trivial⟩
 |e::es,c::bi,i,r,h1,h2=>by
  simp only[bf]at h1;simp only[findKey]at h2;split at h2;·rename_i he;injection h2 with h2;subst h2;have:=zP ρ 16 h he g h1.1 10000 w ab;refine⟨some (i,c.val),?_,rfl,h1.2.1,aC⟩;simp only[Instr.findAsking,Op.equal,Op.maxDepth,Sem.run_bind,this,Result.andThen_ok,bc,Sem.run_pure]
  .rename_i he;have:=zP ρ 16 h he g h1.1 10000 w ab;obtain⟨f,j,l⟩:=GN h g w es bi (i+1) r h1.2.2.2 h2;refine⟨f,?_,by rw[aeJ,show i+(es.length+1)=i+1+es.length by omega];exact l⟩;simp only[Instr.findAsking,Op.equal,Op.maxDepth,Sem.run_bind,this,Result.andThen_ok,abu,bA,j]
  cases h2
 |[],_::_,_,_,h1,_=>by simp[bf]at h1
 |_::_,[],_,_,h1,_=>by simp[bf]at h1
theorem Ox{t:TypeId}{kd:TypeDesc}(hu:P.underlying t=some kd){x y:Value}{d:Bool}(h:Instr.sameNow kd x y=some d)(n:Nat)(w:World):(Op.equalIn (n+1) t x y).run P w=.ok d w:=by
 unfold Instr.sameNow at h;split at h
 .split at h;·rename_i c;injection h with h;subst c;subst h;simp[Op.equalIn,bJ hu]
  cases h
 .injection h with h;subst h;simp[Op.equalIn,bJ hu]
 .injection h with h;subst h;simp[Op.equalIn,bJ hu]
 cases h
theorem GO{t:TypeId}{kd:TypeDesc}(hu:P.underlying t=some kd){d:cY}(h:gW P 16 false t=some d){k:AV}{kv:Value}(j:VR ρ k kv)(w:World):∀(es:List aV)(bi:List MapEntry)(i:Nat)(r:Option (Nat×AV))(f:Option (Nat×Value)),bf ρ es bi->findKey d k es i=some r->Instr.findNow kd kv bi i=some f->FR ρ (i+es.length) r f
 |[],[],i,r,f,_,h2,h3=>by simp only[findKey,aas]at h2;subst h2;simp only[Instr.findNow,aas]at h3;subst h3;trivial
 |e::es,c::bi,i,r,f,h1,h2,h3=>by
  simp only[bf]at h1;simp only[findKey]at h2;simp only[Instr.findNow]at h3;have zR:∀s g,cQ 64 d k e.key=some s->Instr.sameNow kd kv c.key=some g->s=g:=by intro s g l m;have n:=zP ρ 16 h l j h1.1 10000 w ab;have p:=Ox hu m 9999 w;have q:=n.symm.trans p;injection q
  split at h2
  .rename_i he;injection h2 with h2;subst h2;split at h3;·injection h3 with h3;subst h3;exact⟨rfl,h1.2.1,aC⟩
   .rename_i hs;have:=zR _ _ he hs;cases this
   cases h3
  .rename_i he;split at h3;·rename_i hs;have:=zR _ _ he hs;cases this
   .have:=GO hu h j w es bi (i+1) r f h1.2.2.2 h2 h3;rw[aeJ,show i+(es.length+1)=i+1+es.length by omega];exact this
   cases h3
  cases h2
 |[],_::_,_,_,_,h1,_,_=>by simp[bf]at h1
 |_::_,[],_,_,_,h1,_,_=>by simp[bf]at h1
theorem pX{t:TypeId}{d:cY}(h:oP P t=some d){k:AV}{kv:Value}(f:VR ρ k kv)(w:World){es:List aV}{bi:List MapEntry}(he:bf ρ es bi){r:Option (Nat×AV)}(g:findKey d k es 0=some r):∃c,(Instr.findKey t kv bi).run P w=.ok c w/\FR ρ es.length r c:=by obtain⟨kd,hu,i,_⟩:=CY h;cases e:Instr.findNow kd kv bi 0 with|some c=>have:=GO hu i f w es bi 0 r c he g e;rw[aeL]at this;exact⟨c,by simp[Instr.findKey,bJ hu,e],this⟩|none=>obtain⟨c,l,j⟩:=GN i f w es bi 0 r he g;rw[aeL]at j;exact⟨c,by simp[Instr.findKey,bJ hu,e,l],j⟩
theorem GP{s t:ByteArray}(h:ie (s.data.toList.map af5) (t.data.toList.map af5)=true):s=t:=by rw[qX]at h;exact ByteArray.ext (Array.toList_inj.1 (CQ (eq_of_beq h)))
theorem Oy{a i:AV}(h:BS a i=true){x y:Value}(c:VR ρ a x)(d:VR ρ i y):x=y:=by
 unfold BS at h;split at h;·rw[c.nK,d.nK,eq_of_beq h]
 .simp only[aew]at h;obtain⟨e,h1,rfl⟩:=c.hZ;obtain⟨f,h2,rfl⟩:=d.hZ;have:=aey h.1;have:=sN (h1.symm.trans (this.trans h2));have h3:=h.2;rw[eU]at h3;rw[this,eq_of_beq h3]
 .obtain⟨t1,h1,rfl⟩:=c.ky;obtain⟨g,h2,rfl⟩:=d.ky;subst h1;subst h2;rw[GP h]
 cases h
theorem GQ:∀{l m:List AV},uz l m=true->∀{x y:List Value},aR ρ l x->aR ρ m y->x=y|[],[],_,[],[],_,_=>rfl|a::l,e::m,h,c::x,d::y,h1,h2=>by simp only[uz,aew]at h;simp only[aR]at h1 h2;rw[Oy h.1 h1.1 h2.1,GQ h.2 h1.2 h2.2]|[],_::_,h,_,_,_,_=>by simp[uz]at h|_::_,[],h,_,_,_,_=>by simp[uz]at h|[],[],_,_::_,_,h,_=>by simp[aR]at h|[],[],_,[],_::_,_,h=>by simp[aR]at h|_::_,_::_,_,[],_,h,_=>by simp[aR]at h|_::_,_::_,_,_::_,[],_,h=>by simp[aR]at h
theorem C0{t:TypeId}{d:cY}(h:oP P t=some d){k:AV}{kv:Value}(p:VR ρ k kv):∀{es:List aV}{bi:List MapEntry}(i0 i:Nat)(v:AV),bf ρ es bi->findKey d k es i0=some (some (i0+i,v))->qS d k es i=true->∃c,bi[i]?=some c/\c.key=kv
 |[],[],i0,i,v,_,m,_=>by simp[findKey]at m
 |e::es,c::bi,i0,i,v,h1,m,hs=>by
  simp only[bf]at h1;simp only[findKey]at m;cases i with
  |zero=>
   refine⟨c,rfl,?_⟩;split at m
   .rename_i he;obtain⟨kd,hu,n,hd⟩:=CY h;rcases hd with⟨rfl,rfl⟩|⟨G,rfl,rfl⟩|⟨rfl,rfl⟩|⟨l,rfl⟩;·unfold cQ at he;split at he<;>(try(rename_i n _;cases n;done))<;>(try(cases he;done));rename_i g;have f:=h1.1;rw[g]at f;injection he with he;rw[f.nK,p.nK,eq_of_beq he]
    .unfold cQ at he;split at he<;>(try(rename_i n _;cases n;done))<;>(try(cases he;done));rename_i g;have f:=h1.1;rw[g]at f;split at he;·rename_i s;injection he with he;rw[eU]at he;obtain⟨I,q,rfl⟩:=p.hZ;obtain⟨J,r,u⟩:=f.hZ;have:=sN (q.symm.trans (s.trans r));rw[u,this,eq_of_beq he]
     cases he
    .unfold cQ at he;split at he<;>(try(rename_i n _;cases n;done))<;>(try(cases he;done));rename_i g;have f:=h1.1;rw[g]at f;injection he with he;obtain⟨t1,q,rfl⟩:=p.ky;obtain⟨K,r,u⟩:=f.ky;subst q;subst r;rw[u,GP he]
    simp only[qS]at hs;split at hs;·rename_i L M s z;have f:=h1.1;rw[z]at f;obtain⟨x,A,q⟩:=p.oU;obtain⟨y,B,r⟩:=f.oU;have:=GQ hs A B;rw[q,r,Array.toList_inj.1 this]
    .cases hs
    rename_i h2 _;exact(h2 _ rfl).elim
   .exfalso;have:∀(es:List aV)(j i:Nat)(v:AV),findKey d k es j=some (some (i,v))->j<=i:=by
     intro es;induction es with
     |nil=>intro j i v h;simp[findKey]at h
     |cons e es C=>
      intro j i v h;simp only[findKey]at h;split at h;·simp only[aas,acn]at h;omega
      .have:=C _ _ _ h;omega
      cases h
    have:=this _ _ _ _ m;omega
   cases m
  |succ i=>
   split at m;·simp only[aas,acn]at m;omega
   .obtain⟨D,E,F⟩:=C0 h p (i0+1) i v h1.2.2.2 (by rw[m];simp;omega) hs;exact⟨D,by simpa using E,F⟩
   cases m
 |[],_::_,_,_,_,h1,_,_=>by simp[bf]at h1
 |_::_,[],_,_,_,h1,_,_=>by simp[bf]at h1
end
section
variable{P:Program}{b:bS}{ρ:aQ}{H H':ai}{w:World}{nt:Nat}{aa:am AV}{a:Act}{o:Oper}{ao:bC}{v:AV}
def _root_.Go.Value.nN:Value->Bool
 |.int .. |.float .. |.complex .. |.string .. =>false
 |_=>true
def AV.nN:AV->Bool
 |.int .. |.str .. |.ct=>false
 |_=>true
theorem VR.nN{x:AV}{c:Value}(h:VR ρ x c)(k:x.nN=true):c.nN=true:=by cases x<;>cases c<;>first|(simp[VR]at h;done)|rfl|(simp[AV.nN]at k;done)
theorem Oz{x y:Value}(c:x.nN=true)(t:TypeId):binOp .eql t x y=(do pure (.bool (<-Op.equal t x y))):=by cases x<;>first|(simp[Value.nN]at c;done)|(cases y<;>rfl)
theorem OA{x y:Value}(c:x.nN=true)(t:TypeId):binOp .neq t x y=(do pure (.bool (!(<-Op.equal t x y)))):=by cases x<;>first|(simp[Value.nN]at c;done)|(cases y<;>rfl)
theorem OB{g:Nat}{d:cY}{x y:AV}{r:Bool}(h:cQ g d x y=some r)(h1:d≠.int)(h2:d≠.str):x.nN=true:=by unfold cQ at h;split at h<;>first|rfl|(exact absurd rfl h1)|(exact absurd rfl h2)|(cases h;done)
theorem C1{g:Nat}{d:cY}{x y:AV}{r:Bool}(h:cQ g d x y=some r):x.bq=true/\y.bq=true:=by unfold cQ at h;split at h<;>first|exact⟨rfl,rfl⟩|(cases h;done)
theorem GR{f:Nat}{c:Bool}{t:TypeId}{d:cY}(h:gW P f c t=some d):(d=.int->∃k,P.underlying t=some (.int k))/\(d=.str->P.underlying t=some .string)/\(∀g e,d=.iface g e->g=c/\∃i,P.underlying t=some (.interface i)/\e=i.isEmpty):=by
 cases f with
 |zero=>simp[gW]at h
 |succ f=>
  unfold gW at h;split at h;all_goals(try(cases h;done))
  all_goals(rename_i hu)
  all_goals(try(injection h with h;subst h))
  all_goals(try(refine⟨λe=>?_,λe=>?_,λg m e=>?_⟩))
  all_goals(try(first|(cases e;done)|exact⟨_,hu⟩|exact hu))
  .split at h;·injection h with h;subst h;cases e
   cases h
  .split at h;·injection h with h;subst h;cases e
   cases h
  .split at h;·injection h with h;subst h;cases e
   cases h
  .injection e with j l;exact⟨j.symm,_,hu,l.symm⟩
  .split at h;·cases h
   rw[aes]at h;obtain⟨_,_,h⟩:=h;subst h;cases e
  .split at h;·cases h
   rw[aes]at h;obtain⟨_,_,h⟩:=h;subst h;cases e
  .split at h;·cases h
   rw[aes]at h;obtain⟨_,_,h⟩:=h;subst h;cases e
  .split at h;·injection h with h;subst h;cases e
   cases h
  .split at h;·injection h with h;subst h;cases e
   cases h
  split at h;·injection h with h;subst h;cases e
  cases h
theorem OC{t:TypeId}{c:Array (String×TypeId)}(h:P.underlying t=some (.interface c))(n:Nat)(w:World):(Op.eqGuardIn (n+1) t .nilIface .nilIface).run P w=.ok (!c.isEmpty) w:=by simp only[Op.eqGuardIn,Sem.run_bind,bJ h,Result.andThen_ok,Sem.run_pure]
theorem OD{op:BinOp}{t:TypeId}{x y:Operand}{i m:AV}{j k:Value}(n:VR ρ i j)(p:VR ρ m k){g f:Nat}{d:cY}{r:Bool}(hd:gW P f (nF x||nF y) t=some d)(hg:uI P d t=true)(he:cQ g d i m=some r)(w:World):(eqGuard op t x y j k).run P w=.ok () w:=by
 have h0:op=.eql\/op=.neq\/(eqGuard op t x y j k).run P w=.ok () w:=by cases op<;>first|exact .inl rfl|exact .inr (.inl rfl)|exact .inr (.inr (by simp[eqGuard]))
 have h1:op=.eql\/op=.neq->(eqGuard op t x y j k)=eqGuard .eql t x y j k:=by rintro(rfl|rfl)<;>rfl
 have key:(eqGuard .eql t x y j k).run P w=.ok () w:=by
  unfold eqGuard;simp only[aeY,abu,bA,pure_bind];split
  .have h1:i=.nilIface:=by have c:=(C1 he).1;cases i<;>first|rfl|(simp[AV.bq]at c;done)|(simp[VR]at n)
   have h2:m=.nilIface:=by have c:=(C1 he).2;cases m<;>first|rfl|(simp[AV.bq]at c;done)|(simp[VR]at p)
   subst h1;subst h2;unfold cQ at he;split at he<;>(try(rename_i c;cases c;done))<;>(try(rename_i c _;cases c;done))<;>(try(cases he;done));split at he
   .rename_i e;obtain⟨u,z,A,B⟩:=(GR hd).2.2 _ _ rfl;subst u;have q:z.isEmpty=true->(Op.eqGuardIn Op.maxDepth t .nilIface .nilIface).run P w=.ok false w:=λs=>by have:=OC A 9999 w;rw[s]at this;exact this
    rw[B]at e;clear h0 h1 hd hg he n p;cases x<;>cases y<;>simp[nF]at e⊢<;>simp[q (by simpa using e)]
   cases he
  .obtain⟨C,h1⟩:∃l,i=.agg l:=by have c:=(C1 he).1;cases i<;>first|exact⟨_,rfl⟩|(simp[AV.bq]at c;done)|(simp[VR]at n)
   subst h1;have:P.eqGuardType P.depth t=false:=by cases d with|dw l=>simpa[uI]using hg|_=>exfalso;clear h0 h1 hd hg n p;cases g<;>simp[cQ]at he
   simp[this]
  simp
 rcases h0 with h|h|h;·rw[h1 (.inl h)];exact key
 .rw[h1 (.inr h)];exact key
 exact h
theorem OE(h:cO P b ρ H w nt aa a){op:BinOp}{t:TypeId}{x y:Operand}{p:TypeId}(B:o.op=.binOp op t x y p){neg:Bool}{d:cY}{u z:aK}(c:op=if neg then .neq else .eql)(hd:gW P 16 (nF x||nF y) t=some d)(hg:uI P d t=true)(h1:eB P nt x=some u)(h2:eB P nt y=some z)(m:∀k,P.underlying t≠some (.int k))(n:P.underlying t≠some .string)(he:aE (.eq neg d u z) aa H=some (v,H')):bo P b ρ w (execOp a.eval o) v H':=by
 have j:=h.gv h1;have A:=h.gv h2;simp only[aE,aes,acn]at he;obtain⟨q,⟨r,l,rfl⟩,rfl,rfl⟩:=he;have i:=GR hd;have f:=VR.nN j (OB l (λe=>by obtain⟨k,i⟩:=i.1 e;exact m k i) (λe=>n (i.2.1 e)));have g:=zP ρ 16 hd l j A 10000 w ab;have s:=OD (op:=op) (P:=P) j A hd hg l w;refine bo.val (c:=.bool (r !=neg)) (w':=w) ?_ (b9.bL h.I (by simp[VR]));simp only[execOp,B,Sem.run_bind,s,Result.andThen_ok];cases neg;·simp only[abu,bA]at c;subst c;rw[Oz f];simp only[Op.equal,Op.maxDepth,Sem.run_bind,g,Result.andThen_ok,Sem.run_pure,Bool.bne_false]
 simp only[bc]at c;subst c;rw[OA f];simp only[Op.equal,Op.maxDepth,Sem.run_bind,g,Result.andThen_ok,Sem.run_pure,Bool.bne_true]
theorem bf.ig{k v:AV}{kv d:Value}(f:VR ρ k kv)(g:VR ρ v d):∀{es:List aV}{bi:List MapEntry}(i:Nat),bf ρ es bi->bf ρ (ig v k es i) (bi.modify i λe=>{e with key:=kv,val:=d})|[],[],i,_=>by cases i<;>simp[Go.ak.ig,bf]|e::es,c::bi,0,h=>by simp only[bf]at h;simp only[Go.ak.ig,List.modify_zero_cons,bf];exact⟨f,g,h.2.2.1,h.2.2.2⟩|e::es,c::bi,i+1,h=>by simp only[bf]at h;simp only[Go.ak.ig,List.modify_succ_cons,bf];exact⟨h.1,h.2.1,h.2.2.1,bf.ig f g i h.2.2.2⟩|[],_::_,_,h=>by simp[bf]at h|_::_,[],_,h=>by simp[bf]at h
theorem bf.GS{v:AV}{d:Value}(f:VR ρ v d):∀{es:List aV}{bi:List MapEntry}(i:Nat),bf ρ es bi->bf ρ (es.modify i λe=>{e with val:=v}) (bi.modify i λe=>{e with val:=d})|[],[],i,_=>by cases i<;>simp[bf]|e::es,c::bi,0,h=>by simp only[bf]at h;simp only[List.modify_zero_cons,bf];exact⟨h.1,f,h.2.2.1,h.2.2.2⟩|e::es,c::bi,i+1,h=>by simp only[bf]at h;simp only[List.modify_succ_cons,bf];exact⟨h.1,h.2.1,h.2.2.1,bf.GS f i h.2.2.2⟩|[],_::_,_,h=>by simp[bf]at h|_::_,[],_,h=>by simp[bf]at h
theorem bf.push{k v:AV}{kv d:Value}(n:Nat)(f:VR ρ k kv)(g:VR ρ v d):∀{es:List aV}{bi:List MapEntry},bf ρ es bi->bf ρ (es++[⟨k,v,n⟩]) (bi++[{key:=kv,val:=d,born:=n}])|[],[],_=>by simp[bf,f,g]|e::es,c::bi,h=>by simp only[bf]at h;simp only[afk,bf];exact⟨h.1,h.2.1,h.2.2.1,bf.push n f g h.2.2.2⟩|[],_::_,h=>by simp[bf]at h|_::_,[],h=>by simp[bf]at h
theorem bf.erase:∀{es:List aV}{bi:List MapEntry}(i:Nat),bf ρ es bi->bf ρ (my es i) (bi.eraseIdx i)|[],[],i,_=>by cases i<;>simp[my,bf]|e::es,c::bi,0,h=>by simp only[bf]at h;simp only[my,List.eraseIdx_cons_zero];exact h.2.2.2|e::es,c::bi,i+1,h=>by simp only[bf]at h;simp only[my,List.eraseIdx_cons_succ,bf];exact⟨h.1,h.2.1,h.2.2.1,bf.erase i h.2.2.2⟩|[],_::_,_,h=>by simp[bf]at h|_::_,[],_,h=>by simp[bf]at h
theorem bf.qR:∀{es:List aV}{bi:List MapEntry}(i:Nat),i<es.length->bf ρ es bi->∃c,bi[i]?=some c/\c.born=qR es i|[],_,i,hi,_=>by simp at hi|e::es,c::bi,0,_,h=>by simp only[bf]at h;exact⟨c,rfl,h.2.2.1.symm⟩|e::es,c::bi,i+1,hi,h=>by simp only[bf]at h;exact bf.qR (es:=es) i (by simpa using hi) h.2.2.2|_::_,[],_,_,h=>by simp[bf]at h
theorem bf.lT(t:Nat):∀{es:List aV}{bi:List MapEntry}(i0 i:Nat),bf ρ es bi->lT t es i0=some i->i0<=i/\bi.findIdx? (λe=>(e.born:Int)==(t:Int))=some (i - i0)/\∃e c,es[i - i0]?=some e/\bi.find? (λe=>e.born==t)=some c/\VR ρ e.key c.key/\VR ρ e.val c.val
 |[],_,_,_,_,h=>by simp[Go.ak.lT]at h
 |e::es,c::bi,i0,i,h,f=>by
  simp only[bf]at h;simp only[Go.ak.lT]at f;split at f
  .rename_i hb;have hb:=aey hb;injection f with f;subst f;have g:c.born=t:=by rw[<-h.2.2.1];exact hb
   refine⟨aeq _,by simp[List.findIdx?_cons,g],e,c,aC,by simp[g],h.1,h.2.1⟩
  rename_i hb;have hb:¬e.born=t:=λq=>hb (by rw[q];exact afM _);have g:¬c.born=t:=by rw[<-h.2.2.1];exact hb
  have j:¬(c.born:Int)=(t:Int):=ab;obtain⟨s,k,l,m,n,p,r⟩:=bf.lT t (i0+1) i h.2.2.2 f;refine⟨ab,?_,l,m,?_,?_,r⟩
  .have d:((c.born:Int)==(t:Int))=false:=by simpa using j
   rw[List.findIdx?_cons,d,k];simp only[abu,bA,aeT,aas];omega
  .rw[show i - i0=(i - (i0+1))+1 by omega];simpa using n
  have d:(c.born==t)=false:=by simpa using g
  rw[List.find?_cons,d];exact p
 |_::_,[],_,_,h,_=>by simp[bf]at h
theorem uV{i:Nat}(w:World){d:Obj}(h:w.heap[i]?=some d)(g:∀c e f,d≠.cells c e f)(o:Obj):(setObj i o).run P w=.ok () {w with heap:=w.heap.setIfInBounds i o}:=by
 have hl:i<w.heap.size:=by
  rcases afg i w.heap.size with hl|hl;·exact hl
  simp[ae3 hl]at h
 cases d with|cells c e f=>exact absurd rfl (g c e f)|_=>simp only[setObj,Sem.run,h]
theorem map_set(h:bh P b ρ H w){id:af}{es:List aV}{c:Nat}(f:H.get id=.map es c){m:Nat}(hb:ρ id=some (m,0)){es':List aV}{ces':Array MapEntry}(he:bf ρ es' ces'.toList)(d:Nat)(dL:gZ ces' d){w1:World}(i:w1.heap=w.heap)(j:w1.os=w.os)(k:w1.tape=w.tape)(l:w1.output=w.output):∃w',(setObj m (.map ces' d)).run P w1=.ok () w'/\bh P b ρ (H.set id (.map es' d)) w'/\cW b w w':=by
 have g:H.get id≠.none:=by rw[f];simp
 obtain⟨bi,e,_⟩:=nM h f hb;refine⟨_,uV w1 (by rw[i];exact e) (λ_ _ _=>by simp) _,?_⟩;have:=h.nI (i:=id) (o':=.map es' d) (ob':=.map ces' d) g (by rw[f];rfl) hb rfl (by simp only[OR];exact⟨trivial,trivial,dL,he⟩) (by simp[ef]) (w':={w1 with heap:=w1.heap.setIfInBounds m (.map ces' d)}) (by simp only[i]) j k l;rw[f]at this;exact this
theorem GU(k:Value)(w:World):∃c,(Instr.keyThatStays k k).run P w=.ok k c/\c.heap=w.heap/\c.os=w.os/\c.tape=w.tape/\c.output=w.output:=by
 unfold Instr.keyThatStays;split;·exact⟨w,aC,rfl,rfl,rfl,rfl⟩
 cases d:(Question.extern "map.whichKeyStays" 2).forced;·exact⟨w.drew,by simp[d],rfl,rfl,rfl,rfl⟩
 exact⟨w,by simp[d],rfl,rfl,rfl,rfl⟩
end
section
variable{P:Program}{b:bS}{ρ:aQ}{H H':ai}{w:World}{nt:Nat}{aa:am AV}{a:Act}{v:AV}
theorem bh.congr(h:bh P b ρ H w){c:ai}(d:c.next=H.next)(hg:∀j,c.get j=H.get j):bh P b ρ c w:=⟨λi hi=>by rw[hg]at hi⊢;exact h.cJ i hi,λi j k x y e hi hj=>by rw[hg]at hi hj;rw[hg,hg];exact h.iY i j k x y e hi hj,λi j hi=>by rw[hg]at hi⊢;rw[d];exact h.aM i j hi,λi k x hi f=>by rw[hg]at hi f;exact h.wr i k x hi f,λi hi=>by rw[d]at hi;rw[hg];exact h.dD i hi,h.new,h.jP,λi k x g hi=>by rw[hg]at hi⊢;exact h.im i k x g hi,h.dU,λi k x hi=>by rw[hg]at hi;exact h.rd i k x hi,λi hi=>by rw[hg,d];exact⟨(h.un i hi).1,(h.un i hi).2.1,λj=>by rw[hg];exact(h.un i hi).2.2 j⟩,h.di⟩
theorem C2{w:World}{d:Nat}{c:Obj}(h:w.heap[d]?=some c):w.heap.setIfInBounds d c=w.heap:=by
 apply agf;intro i;rw[aeH];split
 .rename_i e;subst e;split;·exact h.symm
  rename_i hl;rw[ae3 ab]
 rfl
theorem bh.C3(h:bh P b ρ H w){i:af}{d:bO}(hi:H.get i≠.none)(j:(H.get i).jE=false)(k:(H.get i).aM=[])(f:d.aM=[])(l:∀x c,OR P ρ (H.get i) x c->OR P ρ d x c/\∀q,ef P q d c):bh P b ρ (H.set i d) w:=by obtain⟨m,x,c,e,hl,hb,g⟩:=h.be hi;obtain⟨h1,h2⟩:=l x c g;have:=(h.nI (w':=w) hi j e f h1 (h2 _) (by rw[C2 hb]) rfl rfl rfl).1;rw[k]at this;exact this
def aV.kv(e:aV):AV×AV:=(e.key,e.val)
theorem co.cH{es:List aV}{l m:List MapEntry}(j:l.Perm m):co ρ es l->∃c,c.Perm es/\co ρ c m:=by
 induction j generalizing es with
 |nil=>intro h;exact⟨es,agn _,h⟩
 |cons x _ k=>intro h;cases es with|nil=>simp[co]at h|cons e es=>simp only[co]at h;obtain⟨c,p,q⟩:=k h.2.2;exact⟨e::c,p.cons e,by simp only[co];exact⟨h.1,h.2.1,q⟩⟩
 |swap x y r=>intro h;match es,h with|[],h=>simp[co]at h|[_],h=>simp[co]at h|i::d::es,h=>simp only[co]at h;exact⟨d::i::es,afA ..,by simp only[co];exact⟨h.2.2.1,h.2.2.2.1,h.1,h.2.1,h.2.2.2.2⟩⟩
 |trans _ _ f g=>intro h;obtain⟨i,p1,n⟩:=f h;obtain⟨d,p2,o⟩:=g n;exact⟨d,p2.trans p1,o⟩
theorem co.C4{es d:List aV}(i:es.Perm d):∀{l:List MapEntry},co ρ es l->∃e,e.Perm l/\co ρ d e:=by
 induction i with
 |nil=>intro l h;exact⟨l,agn _,h⟩
 |cons x _ j=>intro l h;cases l with|nil=>simp[co]at h|cons c l=>simp only[co]at h;obtain⟨e,p,q⟩:=j h.2.2;exact⟨c::e,p.cons c,by simp only[co];exact⟨h.1,h.2.1,q⟩⟩
 |swap x y r=>intro l h;match l,h with|[],h=>simp[co]at h|[_],h=>simp[co]at h|c1::c2::l,h=>simp only[co]at h;exact⟨c2::c1::l,afA ..,by simp only[co];exact⟨h.2.2.1,h.2.2.2.1,h.1,h.2.1,h.2.2.2.2⟩⟩
 |trans _ _ f g=>intro l h;obtain⟨o,p1,k⟩:=f h;obtain⟨m,p2,n⟩:=g k;exact⟨m,p2.trans p1,n⟩
theorem co.kv:∀{es f:List aV}{m:List MapEntry},es.map aV.kv=f.map aV.kv->co ρ es m->co ρ f m
 |[],[],m,_,h=>h
 |e::es,g::f,m,d,h=>by simp only[aez,ae1,aV.kv,acn]at d;cases m with|nil=>simp[co]at h|cons c m=>simp only[co]at h⊢;rw[<-d.1.1,<-d.1.2];exact⟨h.1,h.2.1,co.kv d.2 h.2.2⟩
 |[],_::_,_,d,_=>by simp at d
 |_::_,[],_,d,_=>by simp at d
def sQ:List aV->List MapEntry->List aV
 |e::es,c::m=>{e with born:=c.born}::sQ es m
 |_,_=>[]
theorem co.exact:∀{es:List aV}{m:List MapEntry},co ρ es m->bf ρ (sQ es m) m/\(sQ es m).map aV.kv=es.map aV.kv|[],[],_=>by simp[sQ,bf]|e::es,c::m,h=>by simp only[co]at h;obtain⟨h1,h2⟩:=co.exact h.2.2;simp only[sQ,bf,aez,h2];exact⟨⟨h.1,h.2.1,by trivial,h1⟩,by rfl⟩|[],_::_,h=>by simp[co]at h|_::_,[],h=>by simp[co]at h
theorem bf.open:∀{es:List aV}{m:List MapEntry},bf ρ es m->co ρ es m|[],[],_=>by simp[co]|e::es,c::m,h=>by simp only[bf]at h;simp only[co];exact⟨h.1,h.2.1,bf.open h.2.2.2⟩|[],_::_,h=>by simp[bf]at h|_::_,[],h=>by simp[bf]at h
theorem GV(h:bh P b ρ H w){id:af}{es:List aV}(g:H.get id=.dt es):∃(d i:List aV)(c:Nat),d.Perm es/\i.map aV.kv=d.map aV.kv/\bh P b ρ (H.set id (.map i c)) w:=by obtain⟨k,x,j,e,hl,hb,f⟩:=h.be (i:=id) (by rw[g];simp);rw[g]at f;cases j<;>simp only[OR]at f;rename_i bi c;obtain⟨rfl,dL,l,h1,h2⟩:=f;obtain⟨d,p1,p2⟩:=co.cH h1 h2;obtain⟨p3,p4⟩:=co.exact p2;refine⟨d,sQ d bi.toList,c,p1,p4,?_⟩;have:=(h.nI (i:=id) (o':=.map (sQ d bi.toList) c) (ob':=.map bi c) (w':=w) (by rw[g];simp) (by rw[g];rfl) e rfl (by simp only[OR];exact⟨trivial,trivial,dL,p3⟩) (by simp[ef]) (by rw[C2 hb]) rfl rfl rfl).1;rw[g]at this;exact this
theorem xA(h:bh P b ρ H w){id:af}{esx es es':List aV}{d:Nat}(e:H.get id=.map esx d)(f:es'.Perm es)(g:esx.map aV.kv=es'.map aV.kv):bh P b ρ (H.set id (.dt es)) w:=by refine h.C3 (by rw[e];simp) (by rw[e];rfl) (by rw[e];rfl) rfl ?_;intro x i c;rw[e]at c;cases i<;>simp only[OR]at c⊢;obtain⟨rfl,rfl,dL,h3⟩:=c;obtain⟨l,p1,p2⟩:=co.C4 f (co.kv g (bf.open h3));exact⟨⟨by trivial,dL,l,p1,p2⟩,λq=>by simp[ef]⟩
theorem GW{d:cY}{k:AV}:∀{es c:List aV},es.map aV.kv=c.map aV.kv->dK.go d k es=dK.go d k c|[],[],_=>rfl|e::es,f::c,h=>by simp only[aez,ae1,aV.kv,acn]at h;simp only[dK.go,GW h.2,h.1.1,h.1.2]|[],_::_,h=>by simp at h|_::_,[],h=>by simp at h
theorem OF{d:cY}{k:AV}{es c:List aV}(h:es.Perm c):dK.go d k es=dK.go d k c:=by
 induction h with
 |nil=>rfl
 |cons x _ g=>simp only[dK.go,g]
 |swap x y r=>
  simp only[dK.go];cases h1:cQ 64 d k x.key with
  |none=>cases h2:cQ 64 d k y.key with|none=>simp|some i=>cases i<;>simp
  |some q=>cases h2:cQ 64 d k y.key with|none=>cases q<;>simp|some i=>cases h3:dK.go d k r with|none=>cases q<;>cases i<;>simp|some r=>cases r<;>cases q<;>cases i<;>simp
 |trans _ _ e f=>exact e.trans f
theorem GY{d:cY}{k v:AV}:∀{es c:List aV},es.map aV.kv=c.map aV.kv->(jB d k v es).map aV.kv=(jB d k v c).map aV.kv
 |[],[],_=>rfl
 |e::es,f::c,h=>by
  simp only[aez,ae1,aV.kv,acn]at h;have:jA d k e=jA d k f:=by simp only[jA,h.1.1]
  simp only[jB,aez,GY h.2,this,ae1,and_true];split;·rfl
  simp only[aV.kv,h.1.1,h.1.2]
 |[],_::_,h=>by simp at h
 |_::_,[],h=>by simp at h
theorem zS{d:cY}{k:AV}:∀{es c:List aV},es.map aV.kv=c.map aV.kv->(j6 d k es).map aV.kv=(j6 d k c).map aV.kv
 |[],[],_=>rfl
 |e::es,f::c,h=>by
  have h0:=h;simp only[aez,ae1,aV.kv,acn]at h;have:jA d k e=jA d k f:=by simp only[jA,h.1.1]
  simp only[j6,this];split;·exact zS h.2
  simp only[aez,zS h.2,ae1,and_true];simp only[aV.kv,h.1.1,h.1.2]
 |[],_::_,h=>by simp at h
 |_::_,[],h=>by simp at h
theorem GZ(d:cY)(k v:AV)(es:List aV):jB d k v es=es.map λe=>if jA d k e then{e with key:=k,val:=v}else e:=by induction es with|nil=>rfl|cons e es c=>simp only[jB,aez,c]
theorem G0(d:cY)(k:AV)(es:List aV):j6 d k es=es.filter λe=>!jA d k e:=by induction es with|nil=>rfl|cons e es c=>simp only[j6,List.filter_cons,c];cases jA d k e<;>simp
theorem OG(d:cY)(k v:AV){es c:List aV}(h:es.Perm c):(jB d k v es).Perm (jB d k v c):=by rw[GZ,GZ];exact h.map _
theorem G1(d:cY)(k:AV){es c:List aV}(h:es.Perm c):(j6 d k es).Perm (j6 d k c):=by rw[G0,G0];exact h.filter _
theorem uW{d:cY}{k v:AV}:∀{es:List aV},dK.go d k es=some none->jB d k v es=es/\j6 d k es=es/\∀i,findKey d k es i=some none
 |[],_=>⟨rfl,rfl,λ_=>rfl⟩
 |e::es,h=>by
  simp only[dK.go]at h;split at h;·cases h
  .rename_i r h1 h2;injection h with h;subst h;obtain⟨c,f,g⟩:=uW (v:=v) h2;have:jA d k e=false:=by simp[jA,h1]
   exact⟨by simp[jB,this,c],by simp[j6,this,f],λi=>by simp[findKey,h1,g]⟩
  cases h
theorem zT{d:cY}{k v x:AV}:∀{es:List aV},dK.go d k es=some (some x)->∀i0,∃i,findKey d k es i0=some (some (i0+i,x))/\i<es.length/\ig v k es i=jB d k v es/\my es i=j6 d k es
 |[],h,_=>by simp[dK.go]at h
 |e::es,h,i0=>by
  simp only[dK.go]at h;split at h
  .rename_i h1 h2;injection h with h;injection h with h;subst h;obtain⟨c,f,_⟩:=uW (v:=v) h2;have:jA d k e=true:=by simp[jA,h1]
   refine⟨0,by simp[findKey,h1],aC,?_,?_⟩;·simp only[ig,jB,this,bc,c]
   simp only[my,j6,this,bc,f]
  .rename_i r h1 h2;injection h with h;subst h;obtain⟨i,c,f,g,j⟩:=zT (v:=v) h2 (i0+1);have:jA d k e=false:=by simp[jA,h1]
   refine⟨i+1,by simp only[findKey,h1,c];congr 3;omega,by simpa using f,?_,?_⟩;·simp[ig,jB,this,g]
   simp[my,j6,this,j]
  cases h
theorem C5{d:cY}(hd:lr d=true)(k:AV):∀(es:List aV)(i:Nat),i<es.length->qS d k es i=true
 |[],i,h=>by simp at h
 |e::es,0,_=>by cases d<;>first|rfl|(simp[lr]at hd)
 |e::es,i+1,h=>by simp only[qS];exact C5 hd k es i (by simpa using h)
def bC.G3:bC->Option aK
 |.lookup _ _ _ m _|.iV _ m _ _|.delete _ m _=>some m
 |_=>none
def sR(aa:am AV)(H:ai)(ao:bC):Prop:=∀c id es,ao.G3=some c->gv aa c=.map id->H.get id≠.dt es
theorem C6{s:Sem Next}{ao:bC}(o:∀{M H1:ai}{v:AV},bh P b ρ M w->sR aa M ao->aE ao aa M=some (v,H1)->bo P b ρ w s v H1)(R:bh P b ρ H w)(he:aE ao aa H=some (v,H')):bo P b ρ w s v H':=by
 by_cases N:sR aa H ao;·exact o R N he
 simp only[sR,Classical.not_forall,not_imp,ne_eq,afP]at N;obtain⟨O,id,es,B,C,J⟩:=N;obtain⟨E,g,f,G,I,t⟩:=GV R J;have u:sR aa (H.set id (.map g f)) ao:=by intro ag av F h1 h2;rw[B]at h1;injection h1 with h1;subst h1;rw[C]at h2;injection h2 with h2;subst h2;rw[ai.aJ,aH rfl];simp
 have hg:(H.set id (.map g f)).get id=.map g f:=by rw[ai.aJ,aH rfl]
 have m:∀{v:AV}{esy es1 F:List aV}{c:Nat}{H1 K:ai},bo P b ρ w s v H1->H1.get id=.map esy c->(∀j,j≠id->H1.get j=H.get j)->H1.next=H.next->es1.Perm F->esy.map aV.kv=es1.map aV.kv->K.get id=.dt F->(∀j,j≠id->K.get j=H.get j)->K.next=H.next->bo P b ρ w s v K:=by
  intro v esy es1 F c H1 K S T V W X Y Z g7 g8;obtain⟨q,w',hr,Q,x1,x2,x3,x4⟩:=S;refine⟨q,w',hr,Q,x1,x2,(xA x3 T X Y).congr (by rw[g8];exact W.symm) ?_,x4⟩;intro j;rw[ai.aJ];by_cases e:j=id;·subst e;rw[aH rfl,Z]
  rw[ap e,V j e,g7 j e]
 have p:∀d k,dK d k es=dK d k g:=by
  intro d k;unfold dK;split;·rw[<-OF G,<-GW I]
  rfl
 have l:∀{d:cY}{k:AV}{r:Option AV},dK d k g=some r->lr d=true/\dK.go d k g=some r:=by
  intro d k r h;unfold dK at h;split at h;·exact⟨by assumption,h⟩
  cases h
 cases ao<;>simp only[bC.G3,aas,reduceCtorEq]at B;all_goals subst B
 case lookup d z ok O k=>
  simp only[aE]at he;split at he;·cases he
  rename_i n;simp only[C,J,p]at he;split at he;·rename_i x D;obtain⟨h1,h2⟩:=l D;obtain⟨i,A,_⟩:=zT (v:=x) h2 0;simp only[aas,acn]at he;obtain⟨rfl,rfl⟩:=he;refine m (o t u (v:=if ok=true then .tuple [x,.bool true]else x) (H1:=H.set id (.map g f)) ?_) hg (λj hj=>by rw[ai.aJ,ap hj]) rfl G I J (λ_ _=>rfl) rfl;simp only[aE,C,hg,A,n,abu,bA]
  .rename_i D;obtain⟨h1,h2⟩:=l D;obtain⟨_,_,A⟩:=uW (v:=z) h2;simp only[aas,acn]at he;obtain⟨rfl,rfl⟩:=he;refine m (o t u (v:=if ok=true then .tuple [z,.bool false]else z) (H1:=H.set id (.map g f)) ?_) hg (λj hj=>by rw[ai.aJ,ap hj]) rfl G I J (λ_ _=>rfl) rfl;simp only[aE,C,hg,A,n,abu,bA]
  cases he
 case iV d O k x=>
  simp only[aE]at he;split at he;·cases he
  rename_i n;simp only[C,J,p]at he;split at he;·rename_i y D;obtain⟨h1,h2⟩:=l D;obtain⟨i,A,L,f3,_⟩:=zT (v:=gv aa x) h2 0;simp only[aas,acn]at he;obtain⟨rfl,rfl⟩:=he;refine m (esy:=ig (gv aa x) (gv aa k) g i) (es1:=jB d (gv aa k) (gv aa x) E) (c:=f) (o t u (v:=.agx) (H1:=(H.set id (.map g f)).set id (.map (ig (gv aa x) (gv aa k) g i) f)) ?_) (by rw[ai.aJ,aH rfl]) (λj hj=>by rw[ai.aJ,ap hj,ai.aJ,ap hj]) rfl (OG d _ _ G) (by rw[f3];exact GY I) (by rw[ai.aJ,aH rfl]) (λj hj=>by rw[ai.aJ,ap hj]) rfl;simp only[aE,C,hg,A,n,abu,bA,aeL,C5 h1 _ _ _ L,bc]
  .rename_i D;obtain⟨h1,h2⟩:=l D;obtain⟨_,_,A⟩:=uW (v:=gv aa x) h2;simp only[aas,acn]at he;obtain⟨rfl,rfl⟩:=he;refine m (esy:=g++[⟨gv aa k,gv aa x,f⟩]) (es1:=E++[⟨gv aa k,gv aa x,0⟩]) (c:=f+1) (o t u (v:=.agx) (H1:=(H.set id (.map g f)).set id (.map (g++[⟨gv aa k,gv aa x,f⟩]) (f+1))) ?_) (by rw[ai.aJ,aH rfl]) (λj hj=>by rw[ai.aJ,ap hj,ai.aJ,ap hj]) rfl (G.append_right _) (by simp[I,aV.kv]) (by rw[ai.aJ,aH rfl]) (λj hj=>by rw[ai.aJ,ap hj]) rfl;simp only[aE,C,hg,A,n,abu,bA]
  cases he
 case delete d O k=>
  simp only[aE]at he;split at he;·cases he
  rename_i n;simp only[C,J,p]at he;split at he;·rename_i r D;obtain⟨h1,h2⟩:=l D;simp only[aas,acn]at he;obtain⟨rfl,rfl⟩:=he;cases r with|some y=>obtain⟨i,A,L,_,f4⟩:=zT (v:=gv aa k) h2 0;refine m (esy:=my g i) (es1:=j6 d (gv aa k) E) (c:=f) (o t u (v:=.agx) (H1:=(H.set id (.map g f)).set id (.map (my g i) f)) ?_) (by rw[ai.aJ,aH rfl]) (λj hj=>by rw[ai.aJ,ap hj,ai.aJ,ap hj]) rfl (G1 d _ G) (by rw[f4];exact zS I) (by rw[ai.aJ,aH rfl]) (λj hj=>by rw[ai.aJ,ap hj]) rfl;simp only[aE,C,hg,A,n,abu,bA,aeL]|none=>obtain⟨_,L,A⟩:=uW (v:=gv aa k) h2;refine m (esy:=g) (es1:=j6 d (gv aa k) E) (c:=f) (o t u (v:=.agx) (H1:=(H.set id (.map g f)).set id (.map g f)) ?_) (by rw[ai.aJ,aH rfl]) (λj hj=>by rw[ai.aJ,ap hj,ai.aJ,ap hj]) rfl (G1 d _ G) (by rw[<-zS I,L]) (by rw[ai.aJ,aH rfl]) (λj hj=>by rw[ai.aJ,ap hj]) rfl;simp only[aE,C,hg,A,n,abu,bA]
  cases he
end
section
variable{P:Program}{b:bS}{ρ:aQ}{H H':ai}{w:World}{nt:Nat}{aa:am AV}{a:Act}{o:Oper}{ao:bC}{v:AV}
theorem OH(h:cO P b ρ H w nt aa a){t:TypeId}{m k:Operand}{ok:Bool}(C:o.op=.lookup t m k ok)(f:bG P nt o=some ao)(R:sR aa H ao)(he:aE ao aa H=some (v,H')):bo P b ρ w (execOp a.eval o) v H':=by
 simp only[bG,C,aep,aaw]at f;obtain⟨d,hd,f⟩:=f;split at f
 .rename_i V e;simp only[aaw,aet,aas]at f;obtain⟨kd,l,z,S,W,h1,M,h2,rfl⟩:=f;obtain⟨zv,A,B,T⟩:=pW S;have D:=h.gv h1;have E:=h.gv h2;simp only[aE]at he;split at he;·cases he
  rename_i q;have q:gB kd (gv aa M)=true:=by simpa using q
  have r:=λem w=>zQ l q E em (P:=P) w;have g:∀{c:Value},VR ρ z c->VR ρ (if ok=true then .tuple [z,.bool false]else z) (if ok=true then .tuple #[c,.bool false]else c):=by
   intro c f;cases ok;·exact f
   simp[VR,aR,f]
  have s:∀{x:AV}{c:Value},VR ρ x c->VR ρ (if ok=true then .tuple [x,.bool true]else x) (if ok=true then .tuple #[c,.bool true]else c):=by
   intro x c f;cases ok;·exact f
   simp[VR,aR,f]
  split at he
  .rename_i F;simp only[aas,acn]at he;obtain⟨rfl,rfl⟩:=he;rw[F]at D;have G:=D.pV;obtain⟨n,u,y⟩:=pX (P:=P) l E w (es:=[]) (bi:=[]) (by simp[bf]) (r:=none) rfl;have J:n=none:=by cases n<;>simp_all[FR]
   subst J;refine bo.val (c:=if ok=true then .tuple #[zv,.bool false]else zv) (w':=w) ?_ (b9.bL h.I (g (B ρ)));simp only[execOp,C,Instr.lookup,Sem.run_bind,bJ hd,Result.andThen_ok,G,Sem.run_pure,r,u,A]
  .rename_i id F;rw[F]at D;obtain⟨X,hb,G⟩:=D.ly;split at he
   .rename_i es N K;obtain⟨bi,O,Q⟩:=nM h.I K hb;split at he
    .rename_i i x L;simp only[aas,acn]at he;obtain⟨rfl,rfl⟩:=he;obtain⟨n,u,y⟩:=pX (P:=P) l E w Q L;obtain⟨⟨j,c⟩,rfl⟩:∃p,n=some p:=by cases n with|none=>simp[FR]at y|some p=>exact⟨p,rfl⟩
     simp only[FR]at y;refine bo.val (c:=if ok=true then .tuple #[c,.bool true]else c) (w':=w) ?_ (b9.bL h.I (s y.2.1));simp only[execOp,C,Instr.lookup,Sem.run_bind,bJ hd,Result.andThen_ok,G,Sem.run_pure,r,u,kU O]
    .rename_i L;simp only[aas,acn]at he;obtain⟨rfl,rfl⟩:=he;obtain⟨n,u,y⟩:=pX (P:=P) l E w Q L;have J:n=none:=by cases n<;>simp_all[FR]
     subst J;refine bo.val (c:=if ok=true then .tuple #[zv,.bool false]else zv) (w':=w) ?_ (b9.bL h.I (g (B ρ)));simp only[execOp,C,Instr.lookup,Sem.run_bind,bJ hd,Result.andThen_ok,G,Sem.run_pure,r,u,kU O,A]
    cases he
   .rename_i es K;exact absurd K (R _ _ _ rfl F)
   cases he
  cases he
 cases f
theorem OI(h:cO P b ρ H w nt aa a){t:TypeId}{m k:Operand}{ok:Bool}(c:o.op=.lookup t m k ok)(d:bG P nt o=some ao)(he:aE ao aa H=some (v,H')):bo P b ρ w (execOp a.eval o) v H':=C6 (λe f he=>OH ⟨h.E,e⟩ c d f he) h.I he
theorem bo.skip{s:Sem Next}{w':World}(h:s.run P w=.ok .skip w')(c:b9 P b ρ w v H' undef w'):bo P b ρ w s v H':=⟨undef,w',.inr ⟨h,rfl⟩,c⟩
theorem C7{n i:Nat}{x:AV}{d:Option (Nat×Value)}(h:FR ρ n (some (i,x)) d):∃c,d=some (i,c)/\VR ρ x c/\i<n:=by cases d with|none=>simp[FR]at h|some p=>obtain⟨j,c⟩:=p;simp only[FR]at h;obtain⟨rfl,h2,h3⟩:=h;exact⟨c,rfl,h2,h3⟩
theorem C8{n:Nat}{c:Option (Nat×Value)}(h:FR ρ n none c):c=none:=by cases c with|none=>rfl|some p=>simp[FR]at h
theorem OJ(h:cO P b ρ H w nt aa a){t:TypeId}{m k x:Operand}(l:o.op=.mapUpdate t m k x\/o.op=.insert t m k x)(n:bG P nt o=some ao)(V:sR aa H ao)(he:aE ao aa H=some (v,H')):bo P b ρ w (execOp a.eval o) v H':=by
 have M:∃d,eY P t=some d/\∃E e,d=.map E e/\∃kd,oP P E=some kd/\∃u,eB P nt m=some u/\∃g,eB P nt k=some g/\∃p,eB P nt x=some p/\ao=.iV kd u g p:=by rcases l with l|l<;>simp only[bG,l,aep,aaw]at n<;>obtain⟨d,hd,n⟩:=n<;>refine⟨d,hd,?_⟩<;>split at n<;>(try(cases n;done))<;>simp only[aaw,aet,aas]at n<;>obtain⟨kd,j,u,h1,g,h2,p,h3,W⟩:=n<;>exact⟨_,_,rfl,kd,j,u,h1,g,h2,p,h3,W.symm⟩
 obtain⟨d,hd,E,e,rfl,kd,j,u,h1,g,h2,p,h3,rfl⟩:=M;have z:(execOp a.eval o)=(do Instr.mapUpdate t (a.eval m) (a.eval k) (a.eval x);pure .skip):=by rcases l with l|l<;>simp only[execOp,l]
 have O:=h.gv h1;have s:=h.gv h2;have Q:=h.gv h3;simp only[aE]at he;split at he;·cases he
 rename_i r;have r:gB kd (gv aa g)=true:=by simpa using r
 have A:=λem w=>zQ j r s em (P:=P) w;split at he
 .rename_i id R;rw[R]at O;obtain⟨ag,hb,S⟩:=O.ly;split at he
  .rename_i es f q;obtain⟨bi,C,y⟩:=nM h.I q hb;split at he
   .rename_i i X D;split at he;case isFalse=>cases he
    rename_i N;simp only[aas,acn]at he;obtain⟨rfl,rfl⟩:=he;obtain⟨Y,F,G⟩:=pX (P:=P) j s w y D;obtain⟨c,rfl,f3,f4⟩:=C7 G;obtain⟨ce,T,Z⟩:=C0 j s 0 i X y (by rw[D,aeL]) N;obtain⟨w1,r1,r2,r3,r4,r5⟩:=GU (P:=P) (a.eval k) w;obtain⟨w',J,K,L⟩:=map_set (P:=P) h.I q hb (es':=ig (gv aa p) (gv aa g) es i) (ces':=bi.modify i λe=>{e with key:=a.eval k,val:=a.eval x}) (by rw[Array.toList_modify];exact bf.ig s Q i y) f (gZ.modify (sP h.I q hb C) i (λ_=>rfl)) r2 r3 r4 r5;refine bo.skip (w':=w') ?_ ⟨ρ,bR.refl ρ,VR.agx ρ,K,L⟩;have B:((bi[i]?).map (·.key)).getD (a.eval k)=a.eval k:=by rw[afi]at T;rw[T];simpa using Z
    simp only[z,Instr.mapUpdate,Sem.run_bind,bJ hd,Result.andThen_ok,S,Sem.run_pure,A,F,kU C,B,r1,J]
   .rename_i D;simp only[aas,acn]at he;obtain⟨rfl,rfl⟩:=he;obtain⟨Y,F,G⟩:=pX (P:=P) j s w y D;have:=C8 G;subst this;obtain⟨w',J,K,L⟩:=map_set (P:=P) h.I q hb (es':=es++[⟨gv aa g,gv aa p,f⟩]) (ces':=bi.push {key:=a.eval k,val:=a.eval x,born:=f}) (by rw[Array.toList_push];exact bf.push f s Q y) (f+1) (gZ.push (sP h.I q hb C) rfl) (w1:=w) rfl rfl rfl rfl;refine bo.skip (w':=w') ?_ ⟨ρ,bR.refl ρ,VR.agx ρ,K,L⟩;simp only[z,Instr.mapUpdate,Sem.run_bind,bJ hd,Result.andThen_ok,S,Sem.run_pure,A,F,kU C,J]
   cases he
  .rename_i es q;exact absurd q (V _ _ _ rfl R)
  cases he
 cases he
theorem G4(h:cO P b ρ H w nt aa a){t:TypeId}{m k x:Operand}(c:o.op=.mapUpdate t m k x\/o.op=.insert t m k x)(d:bG P nt o=some ao)(he:aE ao aa H=some (v,H')):bo P b ρ w (execOp a.eval o) v H':=C6 (λe f he=>OJ ⟨h.E,e⟩ c d f he) h.I he
theorem G5{d:cY}{k:AV}:∀(es:List aV)(j i:Nat)(v:AV),findKey d k es j=some (some (i,v))->j<=i
 |[],j,i,v,h=>by simp[findKey]at h
 |e::es,j,i,v,h=>by
  simp only[findKey]at h;split at h;·simp only[aas,acn]at h;omega
  .have:=G5 es _ _ _ h;omega
  cases h
theorem bf.G6{d:cY}{k:AV}{kv:Value}(g:VR ρ k kv):∀{es:List aV}{bi:List MapEntry}(i0 i:Nat)(x:AV),bf ρ es bi->findKey d k es i0=some (some (i0+i,x))->bf ρ (Go.ak.ig x k es i) (bi.modify i λe=>{e with key:=kv})
 |[],_,i0,i,x,_,f=>by simp[findKey]at f
 |e::es,c::bi,i0,i,x,h,f=>by
  simp only[bf]at h;simp only[findKey]at f;cases i with
  |zero=>
   simp only[Go.ak.ig,List.modify_zero_cons,bf];split at f;·simp only[aas,acn]at f;exact⟨g,by rw[<-f.2];exact h.2.1,h.2.2.1,h.2.2.2⟩
   .have:=G5 es _ _ _ f;omega
   cases f
  |succ i=>
   simp only[Go.ak.ig,List.modify_succ_cons,bf];refine⟨h.1,h.2.1,h.2.2.1,?_⟩;split at f;·simp only[aas,acn]at f;omega
   .exact bf.G6 g (i0+1) i x h.2.2.2 (by rw[f,show i0+1+i=i0+(i+1)by omega])
   cases f
 |_::_,[],_,_,_,h,_=>by simp[bf]at h
theorem OL(h:cO P b ρ H w nt aa a){t:TypeId}{m k:Operand}(D:o.op=.mapEntry t m k)(j:bG P nt o=some ao)(he:aE ao aa H=some (v,H')):bo P b ρ w (execOp a.eval o) v H':=by
 simp only[bG,D,aep,aaw]at j;obtain⟨d,hd,j⟩:=j;split at j
 .rename_i kt e;simp only[aaw,aet,aas]at j;obtain⟨kd,g,z,T,om,h1,l,h2,rfl⟩:=j;obtain⟨zv,M,y,ag⟩:=pW T;have O:=h.gv h1;have q:=h.gv h2;simp only[aE]at he;split at he;·cases he
  rename_i n;have n:gB kd (gv aa l)=true:=by simpa using n
  have A:=λem w=>zQ g n q em (P:=P) w;split at he
  .rename_i id V;rw[V]at O;obtain⟨aw,hb,Q⟩:=O.ly;split at he
   .rename_i es f s;obtain⟨bi,C,r⟩:=nM h.I s hb;split at he
    .rename_i i E u;split at he;case isFalse=>cases he
     rename_i N;simp only[aas,acn]at he;obtain⟨rfl,rfl⟩:=he;obtain⟨W,F,G⟩:=pX (P:=P) g q w r u;obtain⟨c,rfl,X,Y⟩:=C7 G;obtain⟨ce,R,Z⟩:=C0 g q 0 i E r (by rw[u,aeL]) N;obtain⟨w1,r1,r2,r3,r4,r5⟩:=GU (P:=P) (a.eval k) w;rw[afi]at R;obtain⟨av,S,q4⟩:=bf.qR i Y r;rw[afi]at S;obtain⟨w',J,K,L⟩:=map_set (P:=P) h.I s hb (es':=ig E (gv aa l) es i) (ces':=bi.modify i λe=>{e with key:=a.eval k}) (by rw[Array.toList_modify];exact bf.G6 q 0 i E r (by rw[u,aeL])) f (gZ.modify (sP h.I s hb C) i (λ_=>rfl)) r2 r3 r4 r5;refine bo.val (c:=.tuple #[c,goInt (qR es i)]) (w':=w') ?_ ⟨ρ,bR.refl ρ,?_,K,L⟩
     .have B:((bi[i]?).map (·.key)).getD (a.eval k)=a.eval k:=by rw[R];simpa using Z
      have p:((bi[i]?).map (λx=>(x.born:Int))).getD 0=(qR es i:Int):=by rw[S];simp[q4]
      simp only[execOp,D,Instr.mapEntry,Sem.run_bind,bJ hd,Result.andThen_ok,Q,Sem.run_pure,A,F,kU C,B,r1,J,p]
     simp only[VR,aR];exact⟨X,VR.goInt ρ _,trivial⟩
    .rename_i u;simp only[aas,acn]at he;obtain⟨rfl,rfl⟩:=he;obtain⟨W,F,G⟩:=pX (P:=P) g q w r u;have:=C8 G;subst this;obtain⟨w',J,K,L⟩:=map_set (P:=P) h.I s hb (es':=es++[⟨gv aa l,z,f⟩]) (ces':=bi.push {key:=a.eval k,val:=zv,born:=f}) (by rw[Array.toList_push];exact bf.push f q (y ρ) r) (f+1) (gZ.push (sP h.I s hb C) rfl) (w1:=w) rfl rfl rfl rfl;refine bo.val (c:=.tuple #[zv,goInt f]) (w':=w') ?_ ⟨ρ,bR.refl ρ,?_,K,L⟩;·simp only[execOp,D,Instr.mapEntry,Sem.run_bind,bJ hd,Result.andThen_ok,Q,Sem.run_pure,A,F,kU C,M,J]
     simp only[VR,aR];exact⟨y ρ,VR.goInt ρ _,trivial⟩
    cases he
   cases he
  cases he
 cases j
theorem OM(h:cO P b ρ H w nt aa a){t:TypeId}{m s x:Operand}(g:o.op=.entryStore t m s x)(j:bG P nt o=some ao)(he:aE ao aa H=some (v,H')):bo P b ρ w (execOp a.eval o) v H':=by
 simp only[bG,g,aep,aaw,aet,aas]at j;obtain⟨F,h1,os,h2,u,h3,rfl⟩:=j;have n:=h.gv h1;have p:=h.gv h2;have y:=h.gv h3;simp only[aE]at he;split at he
 .rename_i id k K z hs;rw[z]at n;rw[hs]at p;obtain⟨G,hb,A⟩:=n.ly;obtain⟨J,_,hi⟩:=p.hZ;split at he
  .rename_i es c f;obtain⟨bi,q,r⟩:=nM h.I f hb;split at he
   .rename_i i B;simp only[aas,acn]at he;obtain⟨rfl,rfl⟩:=he;obtain⟨_,d,_⟩:=bf.lT K 0 i r B;obtain⟨w',C,D,E⟩:=map_set (P:=P) h.I f hb (es':=es.modify i λe=>{e with val:=gv aa u}) (ces':=bi.modify i λe=>{e with val:=a.eval x}) (by rw[Array.toList_modify];exact bf.GS y i r) c (gZ.modify (sP h.I f hb q) i (λ_=>rfl)) (w1:=w) rfl rfl rfl rfl;refine bo.skip (w':=w') ?_ ⟨ρ,bR.refl ρ,VR.agx ρ,D,E⟩;have d:bi.findIdx? (λe=>(e.born:Int)==(K:Int))=some i:=by rw[ago]at d;obtain⟨l⟩:=bi;simpa using d
    simp only[execOp,g,Instr.entryStore,Sem.run_bind,A,Sem.run_pure,Result.andThen_ok,kU q,hi,asInt,asIntOf,aev,d,C]
   cases he
  cases he
 cases he
theorem ON(h:cO P b ρ H w nt aa a){c:Call}(O:o.op=.call c)(hb:c.callee=.builtin .delete)(j:bG P nt o=some ao)(Q:sR aa H ao)(he:aE ao aa H=some (v,H')):bo P b ρ w (execOp a.eval o) v H':=by
 simp only[bG,O,hb,aep,aaw]at j;obtain⟨t,B,d,hd,j⟩:=j;obtain⟨A,l⟩:=qZ (P:=P) (a:=a) O hb w;split at j
 .rename_i V e;simp only[aaw,aet,aas]at j;obtain⟨kd,m,W,⟨R,L,h1⟩,M,⟨S,N,h2⟩,rfl⟩:=j;have s:=h.gv h1;have C:=h.gv h2;have n:(c.args.map a.eval)[0]?=some (a.eval R):=by simp[L]
  have p:(c.args.map a.eval)[1]?=some (a.eval S):=by simp[N]
  simp only[aE]at he;split at he;·cases he
  rename_i q;have q:gB kd (gv aa M)=true:=by simpa using q
  have r:=λem w=>zQ m q C em (P:=P) w;split at he;·rename_i u;simp only[aas,acn]at he;obtain⟨rfl,rfl⟩:=he;rw[u]at s;have x:=s.pV;refine bo.val (c:=.tuple #[]) (w':=w) ?_ (b9.bL h.I (VR.agx ρ));rw[l];simp only[builtin,Builtin.delete_,B,n,p,Sem.run_bind,bJ hd,Result.andThen_ok,x,r,Sem.run_pure]
  .rename_i id u;rw[u]at s;obtain⟨ag,f,x⟩:=s.ly;split at he
   .rename_i es g k;obtain⟨bi,y,z⟩:=nM h.I k f;split at he;·rename_i i X D;simp only[aas,acn]at he;obtain⟨rfl,rfl⟩:=he;obtain⟨T,E,F⟩:=pX (P:=P) m C w z D;obtain⟨Y,rfl,Z,f4⟩:=C7 F;obtain⟨w',G,J,K⟩:=map_set (P:=P) h.I k f (es':=my es i) (ces':=bi.eraseIdxIfInBounds i) (by rw[Array.toList_eraseIdxIfInBounds];exact bf.erase i z) g (gZ.erase (sP h.I k f y) i) (w1:=w) rfl rfl rfl rfl;refine bo.val (c:=.tuple #[]) (w':=w') ?_ ⟨ρ,bR.refl ρ,VR.agx ρ,J,K⟩;rw[l];simp only[builtin,Builtin.delete_,B,n,p,Sem.run_bind,bJ hd,Result.andThen_ok,x,r,Sem.run_pure,kU y,E,G]
    .rename_i D;simp only[aas,acn]at he;obtain⟨rfl,rfl⟩:=he;obtain⟨T,E,F⟩:=pX (P:=P) m C w z D;have:=C8 F;subst this;obtain⟨w',G,J,K⟩:=map_set (P:=P) h.I k f (es':=es) (ces':=bi) z g (sP h.I k f y) (w1:=w) rfl rfl rfl rfl;refine bo.val (c:=.tuple #[]) (w':=w') ?_ ⟨ρ,bR.refl ρ,VR.agx ρ,J,K⟩;rw[l];simp only[builtin,Builtin.delete_,B,n,p,Sem.run_bind,bJ hd,Result.andThen_ok,x,r,Sem.run_pure,kU y,E,G]
    cases he
   .rename_i es k;exact absurd k (Q _ _ _ rfl u)
   cases he
  cases he
 cases j
theorem OO(h:cO P b ρ H w nt aa a){c:Call}(d:o.op=.call c)(hb:c.callee=.builtin .delete)(e:bG P nt o=some ao)(he:aE ao aa H=some (v,H')):bo P b ρ w (execOp a.eval o) v H':=C6 (λf g he=>ON ⟨h.E,f⟩ d hb e g he) h.I he
theorem OP(h:cO P b ρ H w nt aa a){c:Call}(u:o.op=.call c)(hb:c.callee=.builtin .clear){x:aK}(r:ao=.ut x)(f:bG P nt o=some ao)(he:aE ao aa H=some (v,H')):bo P b ρ w (execOp a.eval o) v H':=by
 simp only[bG,u,hb,aep,aaw]at f;obtain⟨t,y,d,hd,f⟩:=f;obtain⟨n,i⟩:=qZ (P:=P) (a:=a) u hb w;split at f;·simp only[aaw,aet,aas]at f;obtain⟨_,_,_,_,f⟩:=f;rw[r]at f;cases f
 .rename_i F e;simp only[aaw,aet,aas]at f;obtain⟨G,⟨A,s,l⟩,rfl⟩:=f;have m:=h.gv l;have j:(c.args.map a.eval)[0]?=some (a.eval A):=by simp[s]
  simp only[aE]at he;split at he;·rename_i p;simp only[aas,acn]at he;obtain⟨rfl,rfl⟩:=he;rw[p]at m;have q:=m.pV;refine bo.val (c:=.tuple #[]) (w':=w) ?_ (b9.bL h.I (VR.agx ρ));rw[i];simp[builtin,Builtin.clear_,y,j,bJ hd,q]
  .rename_i id p;rw[p]at m;obtain⟨K,k,q⟩:=m.ly;split at he;·rename_i es g z;simp only[aas,acn]at he;obtain⟨rfl,rfl⟩:=he;obtain⟨bi,B,J⟩:=nM h.I z k;obtain⟨w',C,D,E⟩:=map_set (P:=P) h.I z k (es':=[]) (ces':= #[]) (by simp[bf]) g gZ.clear (w1:=w) rfl rfl rfl rfl;refine bo.val (c:=.tuple #[]) (w':=w') ?_ ⟨ρ,bR.refl ρ,VR.agx ρ,D,E⟩;rw[i];simp only[builtin,Builtin.clear_,y,j,Sem.run_bind,bJ hd,Result.andThen_ok,q,kU B,C,Sem.run_pure]
   cases he
  cases he
 cases f
end
end
end Go.ak
end
