/- A part. No conditions. -/
import Derived.Test.YtjapbgcbkolgmaaGreatDoorA00
import GoSem.Core.Region
import Derived.Control
import Derived.Below
import Derived.Laws.IdiomCopy
import Derived.Laws.Cells
import GoSem.Dispatch
import Derived.Laws.StructEq
import Derived.Lib.ConvBytes
import Derived.Laws.BytesString
import Derived.Laws.AppendOwn
import Derived.ChangeKeysEq
import Derived.Laws.RangeString
set_option linter.all false
open List renaming range->agA,getD->ahn
open Nat renaming beq->afw,blt->afR
open Int renaming ofNat->age
open Array renaming range->ahl
open BitVec renaming ofInt->agj
open List.Perm renaming swap->agm
open UInt8 renaming toNat->agW,ofNat->ahh
noncomputable section
namespace Go.al
section
abbrev KT:=AV->ah->Prop
mutual
def fB:Value->Option AV
 |.bool b=>some (.bool b)
 |.int k n=>some (.int (kc k) n)
 |.string s=>some (.str (s.data.toList.map agW))
 |.pointer none=>some .kn
 |.slice none 0 0=>some .aH
 |.map none=>some .cC
 |.nilFunc=>some .nilFunc
 |.nilIface=>some .nilIface
 |.func (.func f) a b=>match rc a.toList,rc b.toList with
  |some a,some b=>some (.func f a b)
  |_,_=>none
 |.agg l=>(rc l.toList).map .agg
 |.tuple l=>(rc l.toList).map .tuple
 |.iface t v=>(fB v).map (.iface t)
 |_=>none
def rc:List Value->Option (List AV)
 |[]=>some []
 |v::l=>match fB v,rc l with
  |some v,some l=>some (v::l)
  |_,_=>none
end
variable(P:Program)(nt:Nat)
def eC:Operand->Option aL
 |.tmp a=>if a<nt then some (.t (af.cr a))else none
 |.const v=>(fB v).map .c
 |.global g=>if g<P.globals.size then some (.c (.aE (af.cr g) 0))else none
 |.func f=>some (.c (.func f [] []))
def rf(l:Array Operand):Option (List aL):=l.toList.mapM (eC P nt)
def kH:Option Operand->Option (Option aL)
 |none=>some none
 |some x=>(eC P nt x).map some
def iw(t:TypeId):Option TypeInfo:=P.info? t
def eY(t:TypeId):Option TypeDesc:=P.underlying t
def dZ(t:TypeId):Option Nat:=(P.info? t).map (·.size)
def uU(t:TypeId):Option Nat:=(P.info? t).map (·.bytes)
def mc(t:TypeId):Option AV:=(P.info? t).bind λi=>i.zero.bind fB
def lL(t:TypeId):Option Bool:=(P.underlying t).map λd=>match d with|.struct _|.array _ _=>true|_=>false
def hZ:(fuel:Nat)->(const:Bool)->TypeId->Option cZ
 |0,_,_=>none
 |f+1,const,t=>
  match P.underlying t with
  |some .bool=>some .bool
  |some (.int _)=>some .int
  |some .string=>some .str
  |some (.pointer e)=>match dZ P e with
   |some (_+1)=>some .aE
   |_=>none
  |some (.slice _)=>some .slice
  |some (.map ..)=>some .map
  |some (.func ..)=>some .func
  |some (.interface b)=>some (.iface const b.isEmpty)
  |some (.struct fs)=>
   if P.stoodInHeld t then none else
   (fs.toList.mapM λ(g:Field)=>if g.name= "_" then none else match hZ f false g.type,dZ P g.type,lL P g.type with
    |some d,some s,some a=>some (g.offset,s,a,d)
    |_,_,_=>none).map .dA
  |some (.array n e)=>match hZ f false e,dZ P e,lL P e with
   |some d,some s,some a=>some (.dA ((agA n).map λi=>(i*s,s,a,d)))
   |_,_,_=>none
  |_=>none
def oV(t:TypeId):Option cZ:=
 match P.underlying t with
 |some (.int _)|some .string|some .bool|some (.struct _)|some (.array ..)=>hZ P 16 false t
 |_=>none
def uV(d:cZ)(t:TypeId):Bool:=
 match d with
 |.dA _=>!P.eqGuardType P.depth t
 |_=>true
def nS:Operand->Bool
 |.const _=>true
 |_=>false
def bG(o:Oper):Option bE:=do
 let g:=eC P nt
 match o.op with
 |.move x|.assign x=>return .aR (<-g x)
 |.pick c a b=>return .pick (<-g c) (<-g a) (<-g b)
 |.alloc e=>return .alloc e (<-mc P e).cells
 |.box e x=>return .box e (<-g x)
 |.build t dA=>
  let r:=(<-mc P t).cells
  match<-eY P t with
  |.struct fs=>
   let u<-fs.toList.mapM λ(f:Field)=>(dZ P f.type).map λs=>(f.offset,s)
   let l<-dA.toList.mapM λ(p:Nat×Operand)=>(u[p.1]?).bind λq=>(g p.2).map λx=>(q.1,q.2,x)
   return .build r l
  |.array _ e=>
   let s<-dZ P e
   let l<-dA.toList.mapM λ(p:Nat×Operand)=>(g p.2).map λx=>(p.1*s,s,x)
   return .build r l
  |_=>none
 |.buildSlice t len dA=>
  match<-eY P t with
  |.slice e=>
   let s<-dZ P e
   let r:=(<-mc P e).cells
   if r.length≠s\/s=0\/len*s>65536 then none else
   let l<-dA.toList.mapM λ(p:Nat×Operand)=>(g p.2).map λx=>(p.1*s,s,x)
   return .buildSlice e len r l
  |_=>none
 |.load t a=>if<-lL P t then return .gR (<-dZ P t) (<-g a)else return .bi (<-g a)
 |.store t a x=>return .store (<-dZ P t) (<-g a) (<-g x)
 |.nilCheck x=>return .nilCheck (<-g x)
 |.binOp op t x y _=>
  match op,<-eY P t with
  |.shl,.int _|.shr,.int _=>return .shift op (<-g x) (<-g y)
  |_,.int k=>return .arith op (kc k) (<-g x) (<-g y)
  |_,.string=>return .lE op (<-g x) (<-g y)
  |.eql,_=>
   let d<-hZ P 16 (nS x||nS y) t
   if uV P d t then return .eq false d (<-g x) (<-g y)else none
  |.neq,_=>
   let d<-hZ P 16 (nS x||nS y) t
   if uV P d t then return .eq true d (<-g x) (<-g y)else none
  |_,_=>none
 |.unOp op _ x=>return .unary op (<-g x)
 |.convert s d x=>
  match<-eY P s,<-eY P d with
  |.int _,.int k=>return .jT (kc k) (<-g x)
  |.string,.string=>return .zd (<-g x)
  |.string,.slice e=>if(<-eY P e)matches .int .u8 then(if dZ P e=some 1 then return .sH e (<-g x)else none)else none
  |.slice e,.string=>if(<-eY P e)matches .int .u8 then return .sI (<-g x)else none
  |_,_=>none
 |.makeInterface t x=>if(<-eY P t)matches .interface _ then none else return .pP t (<-g x)
 |.makeFunc (.func f) a b=>return .mK f (<-rf P nt a) (<-rf P nt b)
 |.makeMap _ none=>return .jo
 |.makeMap _ (some _)=>none
 |.makeSlice t l c=>
  match<-eY P t with
  |.slice e=>
   let s<-dZ P e
   let r:=(<-mc P e).cells
   if r.length≠s\/s=0 then none else return .nI e (<-uU P e) s r (<-g l) (<-g c)
  |_=>none
 |.slice t x lo hi z=>
  match<-eY P t with
  |.array n e=>if z.isSome&&hi.isNone then none else return .qU n (<-dZ P e) (<-g x) (<-kH P nt lo) (<-kH P nt hi) (<-kH P nt z)
  |.slice e=>if z.isSome&&hi.isNone then none else
   let s<-dZ P e
   if s=0 then none else return .gD e s (<-g x) (<-kH P nt lo) (<-kH P nt hi) (<-kH P nt z)
  |.string=>if z.isSome then none else return .sJ (<-g x) (<-kH P nt lo) (<-kH P nt hi)
  |_=>none
 |.fieldAddr t x i=>
  match<-eY P t with
  |.struct fs=>
   let f<-fs[i]?
   if(<-dZ P f.type)=0 then none else return .jd f.offset (<-g x)
  |_=>none
 |.field t x i=>
  match<-eY P t with
  |.struct fs=>
   let f<-fs[i]?
   return .part (<-lL P f.type) f.offset (<-dZ P f.type) (<-g x)
  |_=>none
 |.indexAddr t x i=>
  match<-eY P t with
  |.array n e=>return .sK n (<-dZ P e) (<-g x) (<-g i)
  |.slice e=>return .ch (<-dZ P e) (<-g x) (<-g i)
  |_=>none
 |.index t x i=>
  match<-eY P t with
  |.array n e=>return .sL (<-lL P e) n (<-dZ P e) (<-g x) (<-g i)
  |.string=>return .mL (<-g x) (<-g i)
  |_=>none
 |.lookup t m k ok=>
  match<-eY P t with
  |.map w e=>return .lookup (<-oV P w) (<-mc P e) ok (<-g m) (<-g k)
  |_=>none
 |.mapUpdate t m k v|.insert t m k v=>
  match<-eY P t with
  |.map w _=>return .iP (<-oV P w) (<-g m) (<-g k) (<-g v)
  |_=>none
 |.mapEntry t m k=>
  match<-eY P t with
  |.map w e=>return .mapEntry (<-oV P w) (<-mc P e) (<-g m) (<-g k)
  |_=>none
 |.entryStore _ m s v=>return .entryStore (<-g m) (<-g s) (<-g v)
 |.range t x=>match<-eY P t with
  |.string=>return .oQ (<-g x)
  |.map .. =>return .lF (<-g x)
  |_=>none
 |.entry A=>return .pQ (<-g A)
 |.next A j=>if j then return .qV (<-g A)else return .jG (<-g A)
 |.typeAssert x _ t ok=>if(<-eY P t)matches .interface _ then none else return .typeAssert t (<-mc P t) ok (<-g x)
 |.extract x i=>return .extract (<-g x) i
 |.call c=>
  match c.callee with
  |.value f=>return .call (<-g f) (<-rf P nt c.args)
  |.builtin b=>
   let h(i:Nat):Option aL:=(c.args[i]?).bind g
   match b with
   |.len=>match<-eY P (<-c.argTypes[0]?)with
    |.array n _=>(h 0).bind λ_=>some (.qW n)
    |.pointer e=>match<-eY P e with
     |.array n _=>(h 0).bind λ_=>some (.qW n)
     |_=>none
    |.string=>return .nJ (<-h 0)
    |.slice _=>return .iQ (<-h 0)
    |.map .. =>return .sM (<-h 0)
    |_=>none
   |.cap=>match<-eY P (<-c.argTypes[0]?)with
    |.slice _=>return .cap (<-h 0)
    |_=>none
   |.append=>match<-eY P (<-c.argTypes[0]?)with
    |.slice e=>
     let s<-dZ P e
     let r:=(<-mc P e).cells
     if r.length≠s\/s=0\/c.args.size≠2 then none else
     let d<-eY P (<-c.argTypes[1]?)
     return .append e (<-uU P e) s r (d matches .int _) (<-h 0) (<-h 1)
    |_=>none
   |.copy=>match<-eY P (<-c.argTypes[0]?)with
    |.slice e=>return .copy (<-dZ P e) (<-h 0) (<-h 1)
    |_=>none
   |.clear=>match<-eY P (<-c.argTypes[0]?)with
    |.slice e=>return .uI (<-mc P e).cells (<-h 0)
    |.map .. =>return .uJ (<-h 0)
    |_=>none
   |.delete=>match<-eY P (<-c.argTypes[0]?)with
    |.map w _=>return .delete (<-oV P w) (<-h 0) (<-h 1)
    |_=>none
   |.min=>return .nK false (<-rf P nt c.args)
   |.max=>return .nK true (<-rf P nt c.args)
   |_=>none
  |_=>none
 |_=>none
def bE.fW:bE->Bool
 |.store .. |.iP .. |.mapEntry .. |.entryStore .. |.qV _|.jG _|.lF _|.append .. |.copy .. |.uI .. |.uJ .. |.delete .. |.call .. |.lG=>true
 |_=>false
def bE.jK:bE->Bool
 |.box .. |.alloc .. |.buildSlice .. |.sH .. |.jo|.nI .. |.oQ _=>true
 |_=>false
def bE.ia:bE->Bool
 |.bi _|.gR .. |.lookup .. |.sM _|.sI _|.gD _ _ _ (some _) _ _=>true
 |_=>false
def bE.plain:bE->Bool
 |.aR _|.pick .. |.build .. |.nilCheck _|.arith .. |.shift .. |.lE .. |.eq .. |.unary .. |.jT .. |.zd _|.pP .. |.mK .. |.qU .. |.sJ .. |.jd .. |.part .. |.sK .. |.ch ..
 |.sL .. |.mL .. |.typeAssert .. |.extract .. |.qW _|.nJ _|.iQ _|.cap _|.nK .. |.gD _ _ _ none _ _=>true
 |_=>false
def aL.bO:aL->List af
 |.t p=>[p]
 |.c _=>[]
def uW:Option aL->List af
 |some x=>x.bO
 |none=>[]
def bE.bO:bE->List af
 |.aR x|.box _ x|.bi x|.gR _ x|.nilCheck x|.unary _ x|.jT _ x|.sH _ x|.sI x|.zd x|.pP _ x|.jd _ x|.part _ _ _ x|.oQ x|.qV x|.lF x|.jG x|.pQ x
 |.typeAssert _ _ _ x|.extract x _|.nJ x|.iQ x|.sM x|.cap x|.uI _ x|.uJ x=>x.bO
 |.pick c a b=>c.bO++(a.bO++b.bO)
 |.alloc .. |.jo|.lG|.qW _=>[]
 |.build _ d|.buildSlice _ _ _ d=>d.flatMap λp=>p.2.2.bO
 |.store _ a x=>a.bO++x.bO
 |.arith _ _ x y|.shift _ x y|.lE _ x y|.eq _ _ x y|.sK _ _ x y|.ch _ x y|.sL _ _ _ x y|.mL x y|.lookup _ _ _ x y|.mapEntry _ _ x y|.append _ _ _ _ _ x y|.copy _ x y|.delete _ x y|.nI _ _ _ _ x y=>x.bO++y.bO
 |.mK _ a b=>a.flatMap aL.bO++b.flatMap aL.bO
 |.qU _ _ x a b c|.gD _ _ x a b c=>x.bO++(uW a++(uW b++uW c))
 |.sJ x a b=>x.bO++(uW a++uW b)
 |.iP _ m k v=>m.bO++(k.bO++v.bO)
 |.entryStore m s v=>m.bO++(s.bO++v.bO)
 |.nK _ l=>l.flatMap aL.bO
 |.fill m ks=>m.bO++ks.flatMap λp=>p.2.bO
 |.call f l=>f.bO++l.flatMap aL.bO
def bA.ib(x:bA):List af:=(match x.guard with|some (g,_)=>[g]|none=>[])++x.op.bO
def uX:Op->Bool
 |.call c=>match c.callee with
  |.value _=>true
  |_=>false
 |_=>false
def bE.uY:bE->Bool
 |.call .. =>true
 |_=>false
def Jr(o:Oper):Option (Option af):=
 match o.dst with
 |some d=>if d<nt then some (some (af.cr d))else none
 |none=>some none
def Js(az:Array Oper)(o:Oper):Option (Option (af×Bool)):=
 match o.guard with
 |none=>some none
 |some (j,a)=>match(az[j]?).bind (·.dst)with
  |some d=>if d<nt then some (some (af.cr d,a))else none
  |none=>none
def nT(az:Array Oper)(o:Oper):Option bA:=
 let nU:=(bG P nt o).getD .lG
 let op:=if nU.uY&&!uX o.op then .lG else nU
 match Jr nt o,Js nt az o with
 |some dst,some guard=>some {dst,op,guard,fQ:=[],re:=[]}
 |_,_=>none
def order(l:List bA)(cB:Array Nat):(fuel:Nat)->(done:Nat)->List Nat->List Nat
 |0,_,a=>a.reverse
 |f+1,done,a=>
  let lM(i:Nat):Bool:=!done.testBit i&&((cB.getD i 0)&&&done==cB.getD i 0)
  let fW(i:Nat):Bool:=match l[i]? with|some o=>o.op.fW|none=>true
  let b:=(agA l.length).filter lM
  match(b.find? λi=>!fW i)<|>b.head? with
  |some i=>order l cB f (done|||2^i) (i::a)
  |none=>a.reverse
structure Lt where
 u:Nat
 d:cZ
 k:AV
 v:aL
structure jf where
 i0:Nat
 t0:af
 us:List Lt
def zp(t0:af)(u:Nat)(x:bA):Option Lt:=
 match x with
 |⟨none,.iP d (.t a) (.c k) v,none,_,_⟩=>if a=t0/\lH d=true then some ⟨u,d,k,v⟩else none
 |_=>none
def Fm(i:Nat)(x:bA):Option (Nat×af):=
 match x with
 |⟨some t,.jo,none,_,_⟩=>some (i,t)
 |_=>none
def Fp(l:List bA):Option jf:=
 (l.zipIdx.findSome? λp=>Fm p.2 p.1).map λq=>⟨q.1,q.2,l.zipIdx.filterMap λp=>zp q.2 p.2 p.1⟩
def jf.ok(l:List bA)(cB:Array Nat)(aA:List Nat)(T:jf):Bool:=
 aA.contains T.i0&&(match l[T.i0]? with|some x=>(Fm T.i0 x).any (λq=>q.2==T.t0)|none=>false)&&
 T.us.all λa=>!aA.contains a.u&&
  aA.all (λk=>match l[k]? with
   |some x=>(match x.dst with
    |some e=>!(T.t0::a.v.bO).contains e||(cB.getD a.u 0).testBit k
    |none=>true)
   |none=>false)&&
  T.us.all λw=>w.u==a.u||(match cQ 64 a.d a.k w.k with|some b=>!b|none=>false)
def kI:Option jf->Option Nat
 |some T=>some T.i0
 |none=>none
def oW:Option jf->List bA
 |some T=>[⟨none,.fill (.t T.t0) (T.us.map λu=>(u.k,u.v)),none,[],[]⟩]
 |none=>[]
def zq(l:List bA)(cB:Array Nat)(a:Option Nat)(seen:List Nat)(i:Nat):List af:=
 seen.filterMap λj=>match l[j]? with
  |some r=>if r.op.jK&&(!(cB.getD i 0).testBit j||a==some j)then r.dst else none
  |none=>none
def ia(l:List bA)(cB:Array Nat)(seen:List Nat)(i:Nat):List gE:=
 seen.filterMap λj=>match l[j]? with
  |some r=>if r.op.ia&&!(cB.getD i 0).testBit j then r.dst.map λd=>⟨d,r.op,r.guard⟩else none
  |none=>none
def Fq(l:List bA)(cB:Array Nat)(a:Option Nat)(seen:List Nat)(i:Nat)(o:bA):bA:=
 {o with fQ:=if o.op.fW||o.op.ia then zq l cB a seen i else[],re:=if o.op.fW then ia l cB seen i else[]}
def md(l:List bA)(cB:Array Nat)(b:Option Nat)(seen:List Nat):List Nat->List bA
 |[]=>[]
 |i::a=>
  match l[i]? with
  |some o=>Fq l cB b seen i o::md l cB b (i::seen) a
  |none=>[]
def pW(l:List bA)(cB:Array Nat)(i j:Nat):Bool:=
 match l[i]?,l[j]? with
 |some x,some y=>
  let a:=(cB.getD j 0).testBit i
  i !=j&&!(cB.getD i 0).testBit j&&
  (match x.dst with
   |some d=>(match y.dst with|some e=>d !=e|none=>true)&&(a||!y.ib.contains d)
   |none=>true)&&
  (match y.dst with
   |some d=>!x.ib.contains d||(a&&!x.op.ia)
   |none=>true)&&
  (!x.op.fW||(a&&(cB.getD i 0&&&cB.getD j 0)==cB.getD i 0))
 |_,_=>false
def pX(x:bA):Bool:=
 x.op.fW||x.op.plain||(match x.dst with
  |some d=>x.op.jK||(x.op.ia&&!x.ib.contains d)
  |none=>false)
def sV(l:List bA)(cB:Array Nat):List Nat->Bool
 |[]=>true
 |i::a=>(match l[i]? with|some x=>pX x|none=>false)&&a.all (pW l cB i)&&sV l cB a
def uZ(az:Array Oper):Bool:=az.toList.zipIdx.all λp=>p.1.after.all λe=>!Region.binds .any e||decide (e.on<p.2)
def sU(az:Array Oper)(a:Bool):Option (List bA):=do
 let l<-az.toList.mapM (nT P nt az)
 if !a then return l
 let cB:=Region.before az
 let aA:=order l cB az.size 0 []
 if(P.follows .mixedOrders||!Region.departs az)&&uZ az&&(agA az.size).all aA.contains&&sV l cB aA then return md l cB none [] aA else
 let T<-Fp l
 let aA:=order l cB az.size (T.us.foldl (λm b=>m|||2^b.u) 0) []
 if(P.follows .mixedOrders||!Region.departs az)&&uZ az&&(agA az.size).all (λi=>aA.contains i||T.us.any (·.u==i))&&sV l cB aA&&T.ok l cB aA then return md l cB (some T.i0) [] aA++oW (some T)else none
class Ov where
 dD:bg->Option Nat
 code:Nat->bg
 P3:∀b t,dD b=some t->b=code t
variable[Ov]
def dt:Code->Option bg
 |.skip|.label _=>some .skip
 |.region _ az d=>(sU P nt az d).map .region
 |.seq a b=>match dt a,dt b with
  |some a,some b=>some (match Ov.dD (.seq a b)with
   |some t=>.dD t
   |none=>.seq a b)
  |_,_=>none
 |.cond c a b=>match eC P nt c,dt a,dt b with
  |some c,some a,some b=>some (.cond c a b)
  |_,_,_=>none
 |.block id b=>(dt b).map (.block id)
 |.loop b=>(dt b).map .loop
 |.rangeFunc f g as e=>match eC P nt f,dt as,dt e with
  |some f,some as,some e=>if g.toList.all (·<nt)then some (.rangeFunc f (g.toList.map af.cr) as e)else none
  |_,_,_=>none
 |.exit id=>some (.exit id)
 |.ret=>some .ret
 |.scope b=>dt b
 |.goto _|.refuse _=>none
def u6:ResultVar->Option fR
 |.tmp t=>if t<nt then some (.tmp (af.cr t))else none
 |.cell a t=>match lL P t,dZ P t with
  |some g,some s=>if a<nt then some (.cell (af.cr a) g (if g then s else 1))else none
  |_,_=>none
def oX(f:Func):Option aX:=do
 let b<-f.body
 let b<-dt P f.ntmps b
 let r<-f.results.toList.mapM (u6 P f.ntmps)
 return .code f.ntmps r b
end
end Go.al
namespace Go.al
structure aO where
 f:af->Option (Nat×Nat)
 k:Nat->Nat×Nat
instance:CoeFun aO λ_=>af->Option (Nat×Nat):=⟨aO.f⟩
def bQ(c a:aO):Prop:=∀i x,c i=some x->a i=some x/\a.k x.1=c.k x.1
theorem bQ.refl(a:aO):bQ a a:=λ_ _ h=>⟨h,rfl⟩
theorem bQ.trans{a f c:aO}(h:bQ a f)(k:bQ f c):bQ a c:=λi x e=>⟨(k i x (h i x e).1).1,(k i x (h i x e).1).2.trans (h i x e).2⟩
mutual
def VR(e:aO):AV->Value->Prop
 |.tuple l,.tuple cs=>aQ e l cs.toList
 |.agg l,.agg cs=>aQ e l cs.toList
 |.bool a,.bool j=>a=j
 |.int k n,.int h m=>k=kc h/\n=m
 |.str s,.string t=>t.data.toList.map agW=s
 |.aE i o,.pointer (some a)=>∃j x,e i=some (j,x)/\a=⟨j,x+o,none⟩
 |.kn,.pointer none=>True
 |.slice i o len cap ex,.slice (some a) n c=>n=len/\len<=cap/\cap<=c/\(ex=true->c=cap)/\∃j x,e i=some (j,x)/\(c≠0->a=⟨j,x+o,none⟩)/\(ex=false->x+o+c*(e.k j).2<=(e.k j).1)
 |.aH,.slice none 0 0=>True
 |.map i,.map (some j)=>e i=some (j,0)
 |.cC,.map none=>True
 |.func f a j,.func (.func g) c d=>f=g/\aQ e a c.toList/\aQ e j d.toList
 |.yield i,.func (.yield j) c d=>e i=some (j,0)/\c= #[]/\d= #[]
 |.nilFunc,.nilFunc=>True
 |.iface t v,.iface u c=>t=u/\VR e v c
 |.nilIface,.nilIface=>True
 |.b9,_=>True
 |_,_=>False
def aQ(a:aO):List AV->List Value->Prop
 |[],[]=>True
 |v::l,c::m=>VR a v c/\aQ a l m
 |_,_=>False
end
mutual
theorem VR.mono{m j:aO}(h:bQ m j):∀(v:AV)(c:Value),VR m v c->VR j v c
 |.tuple l,.tuple cs,s=>by simp only[VR]at s⊢;exact aQ.mono h l cs.toList s
 |.agg l,.agg cs,s=>by simp only[VR]at s⊢;exact aQ.mono h l cs.toList s
 |.bool _,.bool _,s=>by simpa only[VR]using s
 |.int _ _,.int _ _,s=>by simpa only[VR]using s
 |.str _,.string _,s=>by simpa only[VR]using s
 |.aE i o,.pointer (some a),s=>by
  simp only[VR]at s⊢;obtain⟨w,x,e,rfl⟩:=s;exact⟨w,x,(h _ _ e).1,rfl⟩
 |.kn,.pointer none,_=>by simp only[VR]
 |.slice i o len cap ex,.slice (some a) n c,s=>by
  simp only[VR]at s⊢;obtain⟨h1,h2,h3,p,w,x,e,q,r⟩:=s;exact⟨h1,h2,h3,p,w,x,(h _ _ e).1,q,by rw[show j.k w=m.k w from(h _ _ e).2];exact r⟩
 |.aH,.slice none 0 0,_=>by simp only[VR]
 |.map i,.map (some w),s=>by simp only[VR]at s⊢;exact(h _ _ s).1
 |.cC,.map none,_=>by simp only[VR]
 |.func f a w,.func (.func g) c d,s=>by
  simp only[VR]at s⊢;exact⟨s.1,aQ.mono h a c.toList s.2.1,aQ.mono h w d.toList s.2.2⟩
 |.yield i,.func (.yield w) c d,s=>by simp only[VR]at s⊢;exact⟨(h _ _ s.1).1,s.2⟩
 |.nilFunc,.nilFunc,_=>by simp only[VR]
 |.iface t v,.iface u c,s=>by simp only[VR]at s⊢;exact⟨s.1,VR.mono h v c s.2⟩
 |.nilIface,.nilIface,_=>by simp only[VR]
 |.b9,_,_=>by simp only[VR]
theorem aQ.mono{e a:aO}(h:bQ e a):∀(l:List AV)(m:List Value),aQ e l m->aQ a l m
 |[],[],_=>by simp only[aQ]
 |v::l,c::m,k=>by simp only[aQ]at k⊢;exact⟨VR.mono h v c k.1,aQ.mono h l m k.2⟩
end
theorem aQ.length{a:aO}:∀{l:List AV}{m:List Value},aQ a l m->l.length=m.length|[],[],_=>rfl|_::_,_::_,k=>by simp only[aQ]at k;simp[aQ.length k.2]|[],_::_,k=>by simp[aQ]at k|_::_,[],k=>by simp[aQ]at k
theorem aQ.append{a:aO}:∀{l:List AV}{m:List Value}{e:List AV}{f:List Value},aQ a l m->aQ a e f->aQ a (l++e) (m++f)|[],[],_,_,_,c=>by simpa using c|_::_,_::_,_,_,k,c=>by simp only[aQ,agb]at k⊢;exact⟨k.1,aQ.append k.2 c⟩|[],_::_,_,_,k,_=>by simp[aQ]at k|_::_,[],_,_,k,_=>by simp[aQ]at k
theorem aQ.get{e:aO}:∀{l:List AV}{m:List Value},aQ e l m->∀(i:Nat)(v:AV),l[i]?=some v->∃c,m[i]?=some c/\VR e v c|[],[],_,i,v,h=>by simp at h|a::l,c::m,k,0,v,h=>by simp only[aQ]at k;simp at h;subst h;exact⟨c,aF,k.1⟩|a::l,c::m,k,i+1,v,h=>by simp only[aQ]at k;simp at h;simpa using aQ.get k.2 i v h|[],_::_,k,_,_,_=>by simp[aQ]at k|_::_,[],k,_,_,_=>by simp[aQ]at k
theorem aQ.Ft{e:aO}:∀{l:List AV}{m:List Value},l.length=m.length->(∀(i:Nat)(v:AV)(c:Value),l[i]?=some v->m[i]?=some c->VR e v c)->aQ e l m|[],[],_,_=>by simp[aQ]|a::l,c::m,h,k=>by simp only[aQ];exact⟨k 0 a c aF aF,aQ.Ft (by simpa using h) λi v c h1 h2=>k (i+1) v c (by simpa using h1) (by simpa using h2)⟩|[],_::_,h,_=>by simp at h|_::_,[],h,_=>by simp at h
theorem aQ.take{a:aO}:∀{l:List AV}{m:List Value}(n:Nat),aQ a l m->aQ a (l.take n) (m.take n)|[],[],n,_=>by simp[aQ]|_::_,_::_,0,_=>by simp[aQ]|_::_,_::_,n+1,k=>by simp only[aQ,agN]at k⊢;exact⟨k.1,aQ.take n k.2⟩|[],_::_,_,k=>by simp[aQ]at k|_::_,[],_,k=>by simp[aQ]at k
theorem aQ.drop{a:aO}:∀{l:List AV}{m:List Value}(n:Nat),aQ a l m->aQ a (l.drop n) (m.drop n)|[],[],n,_=>by simp[aQ]|_::_,_::_,0,k=>by simpa using k|_::_,_::_,n+1,k=>by simp only[aQ,ag4]at k⊢;exact aQ.drop n k.2|[],_::_,_,k=>by simp[aQ]at k|_::_,[],_,k=>by simp[aQ]at k
theorem VR.cells{a:aO}{v:AV}{c:Value}(h:VR a v c)(hd:v.bC=true):aQ a v.cells c.cells.toList:=by cases v<;>cases c<;>first|(simp[VR]at h;done)|(simp[AV.bC]at hd;done)|(simp only[AV.cells,Value.cells,aQ,VR]at h⊢;first|exact h|exact⟨h,trivial⟩)
theorem VR.dg{a:aO}{v:AV}{c:Value}(h:VR a v c)(k:v.dg=true):(∀l,c≠.agg l)/\∀l,c≠.tuple l:=by cases v<;>cases c<;>simp_all[VR,AV.dg]
namespace ak
variable{b:Type}(d:b)
theorem aC(x:b):∀(p q:af)(t:ak b),(t.set d q x).get d p=if p=q then x else t.get d p|.xH,.xH,t=>by simp[set,get,val]|.xH,.xO q,t=>by cases t<;>simp[set,get,val]|.xH,.xI q,t=>by cases t<;>simp[set,get,val]|.xO p,.xH,t=>by cases t<;>simp[set,get,left]|.xI p,.xH,t=>by cases t<;>simp[set,get,right]|.xO p,.xO q,t=>by simp[set,get,left,aC x p q]|.xI p,.xI q,t=>by simp[set,get,right,aC x p q]|.xO p,.xI q,t=>by cases t<;>simp[set,get,left]|.xI p,.xO q,t=>by cases t<;>simp[set,get,right]
theorem Jt(n:Nat):(ak.aG:ak b).bp d n=d:=by cases n<;>rfl
theorem Ju(t:ak b):t.bp d 0=t.val d:=by cases t<;>rfl
theorem zr(t:ak b)(m:Nat)(h:m % 2=0):t.bp d (m+1)=t.left.bp d (m/2):=by cases t with|aG=>simp[bp,left,Jt]|node l v r=>simp[bp,left,h]
theorem zt(t:ak b)(m:Nat)(h:¬m % 2=0):t.bp d (m+1)=t.right.bp d (m/2):=by cases t with|aG=>simp[bp,right,Jt]|node l v r=>simp[bp,right,h]
theorem Fu(x:b):∀(f n:Nat)(t:ak b)(j:Nat),n<=f->(t.kY d f n x).bp d j=if j=n then x else t.bp d j
 |f,0,t,j,_=>by
  rw[show t.kY d f 0 x=.node t.left x t.right by cases f<;>rfl];cases j with
  |zero=>simp[bp]
  |succ m=>
   simp only[bp,Nat.succ_ne_zero,bD];split;·rename_i h;rw[zr d t m h]
   rename_i h;rw[zt d t m h]
 |0,n+1,_,_,h=>by omega
 |f+1,n+1,t,j,h=>by
  by_cases c:n % 2=0
  .rw[show t.kY d (f+1) (n+1) x=.node (kY d f (n/2) x t.left) (t.val d) t.right by simp[kY,c]];cases j with
   |zero=>simp[bp,Ju]
   |succ m=>
    by_cases a:m % 2=0
    .rw[zr d _ m a,left,Fu x f (n/2) t.left (m/2) ab,zr d t m a];by_cases e:m=n;·simp[e]
     rw[ap ab,ap ab]
    rw[zt d _ m a,right,zt d t m a,ap ab]
  rw[show t.kY d (f+1) (n+1) x=.node t.left (t.val d) (kY d f (n/2) x t.right)by simp[kY,c]];cases j with
  |zero=>simp[bp,Ju]
  |succ m=>
   by_cases a:m % 2=0;·rw[zr d _ m a,left,zr d t m a,ap ab]
   rw[zt d _ m a,right,Fu x f (n/2) t.right (m/2) ab,zt d t m a];by_cases e:m=n;·simp[e]
   rw[ap ab,ap ab]
end ak
def af.am:af->Nat
 |.xH=>1
 |.xO p=>2*p.am
 |.xI p=>2*p.am+1
theorem af.oY:∀p:af,0<p.am|.xH=>by simp[am]|.xO p=>by have:=p.oY;simp only[am];omega|.xI p=>by have:=p.oY;simp only[am];omega
theorem af.pY:∀{p q:af},p.am=q.am->p=q|.xH,.xH,_=>rfl|.xH,.xO q,h=>by have:=q.oY;simp only[am]at h;omega|.xH,.xI q,h=>by have:=q.oY;simp only[am]at h;omega|.xO p,.xH,h=>by have:=p.oY;simp only[am]at h;omega|.xI p,.xH,h=>by have:=p.oY;simp only[am]at h;omega|.xO p,.xO q,h=>by simp only[am]at h;rw[af.pY (p:=p) (q:=q) ab]|.xI p,.xI q,h=>by simp only[am]at h;rw[af.pY (p:=p) (q:=q) ab]|.xO p,.xI q,h=>by simp only[am]at h;omega|.xI p,.xO q,h=>by simp only[am]at h;omega
theorem af.eI:∀p:af,p.succ.am=p.am+1|.xH=>rfl|.xO p=>rfl|.xI p=>by simp only[succ,am,af.eI p];omega
theorem af.jL:∀t,(af.cr t).am=t+1|0=>rfl|t+1=>by rw[cr,eI,jL t]
theorem af.aY{a c:Nat}(h:af.cr a=af.cr c):a=c:=by have:=congrArg af.am h;simpa[jL]using this
theorem af.eS:∀{p q:af},af.beq p q=true↔p=q|.xH,.xH=>by simp[beq]|.xH,.xO q=>by simp[beq]|.xH,.xI q=>by simp[beq]|.xO p,.xH=>by simp[beq]|.xI p,.xH=>by simp[beq]|.xO p,.xO q=>by simp[beq,af.eS (p:=p) (q:=q)]|.xI p,.xI q=>by simp[beq,af.eS (p:=p) (q:=q)]|.xO p,.xI q=>by simp[beq]|.xI p,.xO q=>by simp[beq]
def gj(c:aO)(a:Nat)(aa:ak AV)(tmps:Array Value):Prop:=
 tmps.size=a/\∀t,t<a->VR c (aa.get .ahp (af.cr t)) (tmps.getD t undef)
theorem gj.mono{c a:aO}{nt:Nat}{aa:ak AV}{tmps:Array Value}(h:bQ c a)(k:gj c nt aa tmps):gj a nt aa tmps:=⟨k.1,λt e=>VR.mono h _ _ (k.2 t e)⟩
theorem gj.set{a:aO}{g:Nat}{aa:ak AV}{tmps:Array Value}{v:AV}{c:Value}{d:Nat}(k:gj a g aa tmps)(i:VR a v c):gj a g (aa.set .ahp (af.cr d) v) (tmps.setIfInBounds d c):=by
 refine⟨by simp[k.1],λt f=>?_⟩;rw[ak.aC];by_cases e:t=d
 .subst e;have:t<tmps.size:=by rw[k.1];exact f
  simpa[Array.getD,this]using i
 have j:af.cr t≠af.cr d:=λh=>e (af.aY h);rw[ap j];have:=k.2 t f;have hs:t<tmps.size:=by rw[k.1];exact f
 have h2:(tmps.setIfInBounds d c).getD t undef=tmps.getD t undef:=by simp[Array.getD,hs,ahf e]
 rw[h2];exact this
theorem VR.ahp(a:aO):VR a AV.ahp Go.undef:=by simp[VR,AV.ahp,Go.undef,aQ]
end Go.al
namespace Go.al
section
variable[Ov]
section
def bL.aM:bL->List af
 |.cells _ _ _ _ aM _=>aM
 |_=>[]
def bL.jg:bL->Bool
 |.cells _ _ _ rw _ _=>!rw
 |_=>false
def bh(a:aO):List aT->List MapEntry->Prop
 |[],[]=>True
 |e::l,c::m=>VR a e.key c.key/\VR a e.val c.val/\e.born=c.born/\bh a l m
 |_,_=>False
def bV(a:aO):List aT->List MapEntry->Prop
 |[],[]=>True
 |e::l,c::m=>VR a e.key c.key/\VR a e.val c.val/\bV a l m
 |_,_=>False
def mP:oS->LoopState->Prop
 |.ready,.ready|.busy,.busy|.done,.done|.exhausted,.exhausted=>True
 |_,_=>False
def mQ:bU->Option Code->Prop
 |.none,none=>True
 |.exit i,some (.exit j)=>i=j
 |.ret,some .ret=>True
 |_,_=>False
def lg(a:aO):Option af->Option Nat->Prop
 |none,none=>True
 |some i,some b=>a i=some (b,0)
 |_,_=>False
def bL.len:bL->Nat
 |.cells _ n _ _ _ _=>n
 |_=>0
variable(P:Program)
def ic(bk:Array MapEntry)(k:Nat):Prop:=(bk.toList.map (·.born)).Nodup/\∀c∈bk.toList,c.born<k
def OR(g:aO):bL->Nat->Obj->Prop
 |.cells c n e rw _ fz,off,.cells cs u fr=>u=e/\off+n<=cs.size/\(∀i,i<n->∃x,cs[off+i]?=some x/\VR g (c.bp .ahp i) x)/\
   (rw=true->∀i,off+fz<=i->i<cs.size->¬(fr.1<=i/\i<fr.2))
 |.map es a,off,.map bk k=>off=0/\k=a/\ic bk k/\bh g es bk.toList
 |.co es,off,.map bk k=>off=0/\ic bk k/\∃l:List MapEntry,l.Perm bk.toList/\bV g es l
 |.jU s j h,off,.stringIter bs p=>off=0/\p=h/\bs.data.toList.map agW=s/\j=s.drop h
 |.loop st bP _ aa v as w d,off,.loop r=>off=0/\mP st r.state/\mQ bP r.pending/\g d=some (r.defers,0)/\
   r.params.toList.map af.cr=v/\∃q,gj g q aa r.tmps/\(∀p∈r.params.toList,p<q)/\dt P q r.assign=some as/\dt P q r.body=some w
 |.deferred b,off,.deferred cs=>off=0/\(b=false->cs=some [])
 |.mapIter m f seen o,off,.mapIter y s z t=>off=0/\lg g m y/\s=f/\z.toList=seen/\t=o
 |_,_,_=>False
theorem bh.mono{b a:aO}(h:bQ b a):∀{l:List aT}{m:List MapEntry},bh b l m->bh a l m|[],[],_=>by simp[bh]|_::_,_::_,k=>by simp only[bh]at k⊢;exact⟨VR.mono h _ _ k.1,VR.mono h _ _ k.2.1,k.2.2.1,bh.mono h k.2.2.2⟩|[],_::_,k=>by simp[bh]at k|_::_,[],k=>by simp[bh]at k
theorem ic.empty:ic #[] 0:=⟨aF,λc h=>by simp at h⟩
theorem ic.modify{bk:Array MapEntry}{k:Nat}(h:ic bk k)(i:Nat){f:MapEntry->MapEntry}(g:∀e,(f e).born=e.born):ic (bk.modify i f) k:=by
 have:∀(l:List MapEntry)(i:Nat),(l.modify i f).map (·.born)=l.map (·.born):=by intro l;induction l with|nil=>intro i;cases i<;>rfl|cons a l j=>intro i;cases i with|zero=>simp[g]|succ i=>simp[j]
 refine⟨by rw[Array.toList_modify,this];exact h.1,λc m=>?_⟩;have b:c.born∈(bk.toList.modify i f).map (·.born):=afI (by rw[<-Array.toList_modify];exact m);rw[this,afE]at b;obtain⟨d,hd,e⟩:=b;rw[<-e];exact h.2 d hd
theorem ic.push{bk:Array MapEntry}{k:Nat}(h:ic bk k){e:MapEntry}(he:e.born=k):ic (bk.push e) (k+1):=by
 refine⟨?_,λc f=>?_⟩;·rw[Array.toList_push,afS,afY];refine⟨h.1,aF,λa g b hb=>?_⟩;simp only[afp,agu,abx]at hb;rw[afE]at g;obtain⟨d,hd,rfl⟩:=g;have:=h.2 d hd;omega
 rw[Array.toList_push,ae8]at f;rcases f with f|f;·have:=h.2 c f;omega
 simp only[abx]at f;subst f;omega
theorem ic.erase{bk:Array MapEntry}{k:Nat}(h:ic bk k)(i:Nat):ic (bk.eraseIdxIfInBounds i) k:=by
 refine⟨?_,λc a=>?_⟩;·rw[Array.toList_eraseIdxIfInBounds];exact h.1.sublist ((List.eraseIdx_sublist _ _).map _)
 rw[Array.toList_eraseIdxIfInBounds]at a;exact h.2 c ((List.eraseIdx_sublist _ _).subset a)
theorem ic.clear{k:Nat}:ic #[] k:=⟨aF,λc h=>by simp at h⟩
theorem bV.mono{b a:aO}(h:bQ b a):∀{l:List aT}{m:List MapEntry},bV b l m->bV a l m|[],[],_=>by simp[bV]|_::_,_::_,k=>by simp only[bV]at k⊢;exact⟨VR.mono h _ _ k.1,VR.mono h _ _ k.2.1,bV.mono h k.2.2⟩|[],_::_,k=>by simp[bV]at k|_::_,[],k=>by simp[bV]at k
variable{P}
theorem OR.mono{d a:aO}(h:bQ d a){o:bL}{off:Nat}{b:Obj}(k:OR P d o off b):OR P a o off b:=by
 cases o<;>cases b<;>simp only[OR]at k⊢;·obtain⟨h1,h2,h3,c⟩:=k;exact⟨h1,h2,λi hi=>by obtain⟨x,e,f⟩:=h3 i hi;exact⟨x,e,VR.mono h _ _ f⟩,c⟩
 .exact⟨k.1,k.2.1,k.2.2.1,bh.mono h k.2.2.2⟩
 .exact⟨k.1,k.2.1,by obtain⟨l,h1,h2⟩:=k.2.2;exact⟨l,h1,bV.mono h h2⟩⟩
 .exact k
 .obtain⟨h1,h2,h3,c,g,nt,j,n⟩:=k;exact⟨h1,h2,h3,(h _ _ c).1,g,nt,gj.mono h j,n⟩
 .exact k
 refine⟨k.1,?_,k.2.2⟩;have:=k.2.1;rename_i m _ _ _ p _ _ _;cases m<;>cases p<;>simp only[lg]at this⊢;exact(h _ _ this).1
structure bS where
 w:Nat->Prop
 r:Nat->Prop
 un:af->Prop
 di:af->Prop
structure cX(Wr:bS)(w w':World):Prop where
 os:w'.os=w.os
 tape:w'.tape=w.tape
 output:w'.output=w.output
 size:w.heap.size<=w'.heap.size
 block:∀k,k<w.heap.size->¬Wr.w k->w'.heap[k]?=w.heap[k]?
theorem cX.refl(a:bS)(w:World):cX a w w:=⟨rfl,rfl,rfl,adv _,λ_ _ _=>rfl⟩
theorem cX.trans{d:bS}{a b c:World}(h:cX d a b)(k:cX d b c):cX d a c:=⟨k.os.trans h.os,k.tape.trans h.tape,k.output.trans h.output,agE h.size k.size,λi hi e=>(k.block i (afT hi h.size) e).trans (h.block i hi e)⟩
theorem cX.drew{b:bS}{w a:World}(h:cX b w a):cX b w {a with drawn:=a.drawn+1}:=⟨h.os,h.tape,h.output,h.size,h.block⟩
variable(P)
def dI(q:Nat×Nat):bL->Obj->Prop
 |.cells _ _ e _ _ _,.cells cs _ _=>q=(cs.size,(dZ P e).getD 0)
 |_,_=>True
structure bj(Wr:bS)(ρ:aO)(H:ah)(w:World):Prop where
 cI:∀i,H.get i≠.none->∃b x ob,ρ i=some (b,x)/\w.heap[b]?=some ob/\OR P ρ (H.get i) x ob
 jh:∀i j b x y,i≠j->H.get i≠.none->H.get j≠.none->ρ i=some (b,x)->ρ j=some (b,y)->(i∈(H.get j).aM/\x+(H.get i).len<=y+(H.get j).len)\/(j∈(H.get i).aM/\y+(H.get j).len<=x+(H.get i).len)
 aM:∀i j,i∈(H.get j).aM->i.am<H.next.am/\(H.get i≠.none->(H.get i).jg=true)
 wr:∀i b x,H.get i≠.none->(H.get i).jg=false->ρ i=some (b,x)->Wr.w b
 cS:∀i,H.next.am<=i.am->H.get i=.none/\ρ i=none
 new:∀k,w.heap.size<=k->Wr.w k/\Wr.r k
 jV:∀g,g<P.globals.size->ρ (af.cr g)=some (g,0)
 iw:∀i b x ob,H.get i≠.none->ρ i=some (b,x)->w.heap[b]?=some ob->dI P (ρ.k b) (H.get i) ob
 dO:∀i b x,ρ i=some (b,x)->b<w.heap.size
 rd:∀i b x,H.get i≠.none->ρ i=some (b,x)->Wr.r b
 un:∀i,Wr.un i->H.get i=.none/\i.am<H.next.am/\∀j,i∉(H.get j).aM
 di:∀i,Wr.di i->Wr.un i/\ρ i=none
variable{P}
theorem bj.drew{a:bS}{b:aO}{H:ah}{w:World}(h:bj P a b H w):bj P a b H {w with drawn:=w.drawn+1}:=⟨h.cI,h.jh,h.aM,h.wr,h.cS,h.new,h.jV,h.iw,h.dO,h.rd,h.un,h.di⟩
theorem ah.aC(H:ah)(i j:af)(o:bL):(H.set i o).get j=if j=i then o else H.get j:=ak.aC _ _ _ _ _
theorem ah.cz(H:ah)(j:af)(o:bL):(H.new o).get j=if j=H.next then o else H.get j:=ak.aC _ _ _ _ _
theorem ah.d8(H:ah)(i:af)(o:bL):(H.set i o).next=H.next:=rfl
theorem ah.sW:∀(l:List af)(H:ah)(j:af),(H.dN l).get j=if j∈l then .none else H.get j|[],H,j=>by simp[ah.dN]|i::l,H,j=>by rw[ah.dN,ah.sW l,ah.aC];by_cases h:j∈l<;>by_cases e:j=i<;>simp[h,e]
theorem ah.ix:∀(l:List af)(H:ah),(H.dN l).next=H.next|[],_=>rfl|i::l,H=>by rw[ah.dN,ah.ix l];rfl
def aO.add(a:aO)(i:af)(b x:Nat)(q:Nat×Nat):aO:=⟨λj=>if j=i then some (b,x)else a j,λc=>if c=b then q else a.k c⟩
theorem aO.dU(a:aO)(i:af)(b x:Nat)(q:Nat×Nat):a.add i b x q i=some (b,x):=by simp[aO.add]
theorem aO.pZ(a:aO)(i:af)(b x:Nat)(q:Nat×Nat):(a.add i b x q).k b=q:=by simp[aO.add]
theorem aO.oZ{a:aO}{i:af}(b x:Nat)(q:Nat×Nat)(h:a i=none)(hb:∀j c y,a j=some (c,y)->c=b->a.k b=q):bQ a (a.add i b x q):=by
 intro j y e;refine⟨?_,?_⟩
 .show(if j=i then some (b,x)else a j)=some y;split;·rename_i hj;subst hj;rw[h]at e;cases e
  exact e
 show(if y.1=b then q else a.k y.1)=a.k y.1;split;·rename_i d;rw[d];exact(hb j y.1 y.2 e d).symm
 rfl
theorem bj.alloc{A:bS}{p:aO}{H:ah}{w:World}(h:bj P A p H w){o:bL}{ob:Obj}(q:Nat×Nat)(hq:dI P q o ob)(M:o≠.none)(F:o.aM=[])(B:OR P (p.add H.next w.heap.size 0 q) o 0 ob):bQ p (p.add H.next w.heap.size 0 q)/\bj P A (p.add H.next w.heap.size 0 q) (H.new o) {w with heap:=w.heap.push ob}/\cX A w {w with heap:=w.heap.push ob}:=by
 have J:=h.cS H.next (adv _);have f:bQ p (p.add H.next w.heap.size 0 q):=aO.oZ w.heap.size 0 q J.2 (λj c y e N=>by have:=h.dO j c y e;omega);have t:∀i,H.get i≠.none->∃b x ob,p i=some (b,x)/\b<w.heap.size/\w.heap[b]?=some ob/\OR P p (H.get i) x ob:=by
  intro i hi;obtain⟨b,x,ob,e,hb,B⟩:=h.cI i hi;refine⟨b,x,ob,e,?_,hb,B⟩;rcases afZ b w.heap.size with hl|hl;·exact hl
  simp[afU hl]at hb
 refine⟨f,⟨?_,?_,?_,?_,?_,?_,?_,?_,?_,?_,?_,?_⟩,⟨rfl,rfl,rfl,aF,?_⟩⟩
 .intro i hi;rw[ah.cz]at hi⊢;by_cases e:i=H.next;·subst e;rw[aJ rfl];exact⟨w.heap.size,0,ob,aO.dU ..,aF,B⟩
  rw[ap e]at hi⊢;obtain⟨b,x,s,u,hl,hb,D⟩:=t i hi;refine⟨b,x,s,(f _ _ u).1,?_,OR.mono f D⟩;show(w.heap.push ob)[b]?=_;rw[agF,ap ab];exact hb
 .intro i j b x y v hi hj m n;rw[ah.cz]at hi hj;rw[ah.cz,ah.cz];by_cases d:i=H.next;·subst d;have r:j≠H.next:=λh=>v h.symm;rw[ap r]at hj;obtain⟨K,L,_,u,hl,_⟩:=t j hj;rw[aO.dU]at m;have:=(f _ _ u).1;rw[this]at n;injection m with m;injection n with n;injection m with m _;injection n with n _;omega
  by_cases r:j=H.next;·subst r;rw[ap d]at hi;obtain⟨K,L,_,u,hl,_⟩:=t i hi;rw[aO.dU]at n;have:=(f _ _ u).1;rw[this]at m;injection m with m;injection n with n;injection m with m _;injection n with n _;omega
  rw[ap d]at hi⊢;rw[ap r]at hj⊢;simp only[aO.add,ap d,ap r]at m n;exact h.jh i j b x y v hi hj m n
 .intro i j hj;rw[ah.cz]at hj;by_cases r:j=H.next;·rw[aJ r,F]at hj;cases hj
  rw[ap r]at hj;obtain⟨h1,h2⟩:=h.aM i j hj;have d:i≠H.next:=λe=>by subst e;omega
  rw[ah.cz,ap d];refine⟨?_,h2⟩;show i.am<H.next.succ.am;rw[af.eI];omega
 .intro i b x hi C e;rw[ah.cz]at hi C;by_cases d:i=H.next;·subst d;rw[aO.dU]at e;injection e with e;injection e with e _;exact(h.new b ab).1
  rw[ap d]at hi C;simp only[aO.add,ap d]at e;exact h.wr i b x hi C e
 .intro i hi;have E:H.next.succ.am<=i.am:=hi;rw[af.eI]at E;have z:i≠H.next:=λe=>by subst e;omega
  rw[ah.cz,ap z];obtain⟨a,b⟩:=h.cS i ab;exact⟨a,by simp[aO.add,z,b]⟩
 .intro O G;exact h.new O (by simp at G;omega)
 .intro g hg;exact(f _ _ (h.jV g hg)).1
 .intro i b x s hi e hb;rw[ah.cz]at hi⊢;by_cases d:i=H.next;·subst d;rw[aO.dU]at e;injection e with e;injection e with e _;subst e;rw[aJ rfl,aO.pZ];have l:(w.heap.push ob)[w.heap.size]?=some s:=hb;rw[agF,aJ rfl]at l;injection l with l;rw[<-l];exact hq
  rw[ap d]at hi⊢;simp only[aO.add,ap d]at e;have I:=h.dO i b x e;have l:(w.heap.push ob)[b]?=some s:=hb;rw[agF,ap ab]at l;rw[show(p.add H.next w.heap.size 0 q).k b=p.k b from(f _ _ e).2];exact h.iw i b x s hi e l
 .intro i b x e;show b<(w.heap.push ob).size;rw[Array.size_push];by_cases d:i=H.next;·subst d;rw[aO.dU]at e;injection e with e;injection e with e _;omega
  simp only[aO.add,ap d]at e;have:=h.dO i b x e;omega
 .intro i b x hi e;rw[ah.cz]at hi;by_cases d:i=H.next;·subst d;rw[aO.dU]at e;injection e with e;injection e with e _;exact(h.new b ab).2
  rw[ap d]at hi;simp only[aO.add,ap d]at e;exact h.rd i b x hi e
 .intro i hi;obtain⟨h1,h2,h3⟩:=h.un i hi;have d:i≠H.next:=λe=>by subst e;omega
  refine⟨by rw[ah.cz,ap d];exact h1,?_,λj hj=>?_⟩;·show i.am<H.next.succ.am;rw[af.eI];omega
  rw[ah.cz]at hj;by_cases r:j=H.next;·rw[aJ r,F]at hj;cases hj
  rw[ap r]at hj;exact h3 j hj
 .intro i hi;obtain⟨h1,h2⟩:=h.di i hi;have d:i≠H.next:=λe=>by have:=(h.un i h1).2.1;subst e;omega
  exact⟨h1,by simp[aO.add,d,h2]⟩
 intro O G _;show(w.heap.push ob)[O]?=_;rw[agF,ap ab]
theorem bj.bm{d:bS}{c:aO}{H:ah}{w:World}(h:bj P d c H w){i:af}(hi:H.get i≠.none):∃b x a,c i=some (b,x)/\b<w.heap.size/\w.heap[b]?=some a/\OR P c (H.get i) x a:=by
 obtain⟨b,x,a,e,hb,f⟩:=h.cI i hi;refine⟨b,x,a,e,?_,hb,f⟩;rcases afZ b w.heap.size with hl|hl;·exact hl
 simp[afU hl]at hb
theorem bj.Bv{a:bS}{b:aO}{H:ah}{w:World}(h:bj P a b H w){i:af}(hi:H.get i≠.none):i.am<H.next.am:=by
 rcases afZ i.am H.next.am with hl|hl;·exact hl
 exact absurd (h.cS i hl).1 hi
theorem bj.nV{G:bS}{C:aO}{H:ah}{w:World}(h:bj P G C H w){i:af}{b x:Nat}{o':bL}{ob':Obj}(hi:H.get i≠.none)(s:(H.get i).jg=false)(hb:C i=some (b,x))(R:o'.aM=[])(T:OR P C o' x ob')(V:dI P (C.k b) o' ob'){w':World}(u:w'.heap=w.heap.setIfInBounds b ob')(J:w'.os=w.os)(K:w'.tape=w.tape)(L:w'.output=w.output):bj P G C ((H.dN (H.get i).aM).set i o') w'/\cX G w w':=by
 obtain⟨Y,Z,ob,E,hl,W,X⟩:=h.bm hi;rw[hb]at E;injection E with E;injection E with m o;subst m;subst o;have d:∀j,((H.dN (H.get i).aM).set i o').get j=if j=i then o' else if j∈(H.get i).aM then .none else H.get j:=by intro j;rw[ah.aC,ah.sW]
 have a:∀j,j≠i->(if j∈(H.get i).aM then bL.none else H.get j)≠.none->j∉(H.get i).aM/\H.get j≠.none:=by
  intro j _ hj;by_cases n:j∈(H.get i).aM;·rw[aJ n]at hj;exact absurd rfl hj
  rw[ap n]at hj;exact⟨n,hj⟩
 have t:∀j y c,j≠i->j∉(H.get i).aM->H.get j≠.none->C j=some (c,y)->c≠b:=by
  intro j y c M N hj g r;subst r;rcases h.jh i j c x y (λe=>M e.symm) hi hj hb g with⟨n,_⟩|⟨n,_⟩;·have:=(h.aM i j n).2 hi;rw[s]at this;cases this
  exact N n
 refine⟨⟨?_,?_,?_,?_,?_,?_,?_,?_,?_,?_,?_,?_⟩,⟨J,K,L,by rw[u];simp,?_⟩⟩
 .intro j hj;rw[d]at hj⊢;by_cases e:j=i;·subst e;rw[aJ rfl];exact⟨b,x,ob',hb,by rw[u,afA];simp[hl],T⟩
  rw[ap e]at hj⊢;obtain⟨n,f⟩:=a j e hj;rw[ap n];obtain⟨c,y,I,S,r,O⟩:=h.cI j f;have:=t j y c e n f S;exact⟨c,y,I,S,by rw[u,afA,ap (λh=>this h.symm)];exact r,O⟩
 .intro j ag c y z D hj l g v;rw[d]at hj l;rw[d,d];by_cases m:j=i;·subst m;have o:ag≠j:=λh=>D h.symm;rw[ap o]at l;obtain⟨n,A⟩:=a ag o l;rw[hb]at g;injection g with g;injection g with g _;exact absurd g.symm (t ag z c o n A v)
  by_cases o:ag=i;·subst o;rw[ap m]at hj;obtain⟨n,f⟩:=a j m hj;rw[hb]at v;injection v with v;injection v with v _;exact absurd v.symm (t j y c m n f g)
  rw[ap m]at hj⊢;rw[ap o]at l⊢;obtain⟨q,f⟩:=a j m hj;obtain⟨p,A⟩:=a ag o l;rw[ap q,ap p];exact h.jh j ag c y z D f A g v
 .intro j ag l;rw[d]at l;have B:((H.dN (H.get i).aM).set i o').next=H.next:=by rw[ah.d8,ah.ix]
  rw[B];by_cases o:ag=i;·rw[aJ o,R]at l;cases l
  rw[ap o]at l;by_cases p:ag∈(H.get i).aM;·rw[aJ p]at l;cases l
  rw[ap p]at l;obtain⟨h1,h2⟩:=h.aM j ag l;refine⟨h1,λhj=>?_⟩;rw[d]at hj⊢;by_cases m:j=i;·subst m;have:=h2 hi;rw[s]at this;cases this
  rw[ap m]at hj⊢;obtain⟨q,f⟩:=a j m hj;rw[ap q];exact h2 f
 .intro j c y hj F g;rw[d]at hj F;by_cases m:j=i;·subst m;exact h.wr j c y hi s g
  rw[ap m]at hj F;obtain⟨q,f⟩:=a j m hj;rw[ap q]at F;exact h.wr j c y f F g
 .intro j hj;have f:H.next.am<=j.am:=by rw[ah.d8,ah.ix]at hj;exact hj
  obtain⟨h1,h2⟩:=h.cS j f;refine⟨?_,h2⟩;rw[d];by_cases m:j=i;·subst m;exact absurd h1 hi
  rw[ap m];split;·rfl
  exact h1
 .intro ag l;exact h.new ag (by rw[u]at l;simpa using l)
 .exact h.jV
 .intro j c y I hj g r;rw[d]at hj⊢;by_cases e:j=i;·subst e;rw[aJ rfl];rw[hb]at g;injection g with g;injection g with g _;subst g;rw[u,afA]at r;simp only[hl,bf,aaM]at r;rw[<-r];exact V
  rw[ap e]at hj⊢;obtain⟨n,f⟩:=a j e hj;rw[ap n];have:=t j y c e n f g;rw[u,afA,ap (λh=>this h.symm)]at r;exact h.iw j c y I f g r
 .intro j c y g;rw[u,Array.size_setIfInBounds];exact h.dO j c y g
 .intro j c y hj g;rw[d]at hj;by_cases e:j=i;·subst e;exact h.rd j c y hi g
  rw[ap e]at hj;exact h.rd j c y (a j e hj).2 g
 .intro j hj;have B:((H.dN (H.get i).aM).set i o').next=H.next:=by rw[ah.d8,ah.ix]
  rw[B];obtain⟨h1,h2,h3⟩:=h.un j hj;refine⟨?_,h2,λag l=>?_⟩;·rw[d,ap (λe=>hi (by rw[<-e];exact h1)),h1];split<;>rfl
  rw[d]at l;by_cases o:ag=i;·rw[aJ o,R]at l;cases l
  rw[ap o]at l;by_cases p:ag∈(H.get i).aM;·rw[aJ p]at l;cases l
  rw[ap p]at l;exact h3 ag l
 .exact h.di
 intro ag l Q;have:ag≠b:=λe=>Q (e▸h.wr i b x hi s hb);rw[u,afA,ap (λh=>this h.symm)]
theorem bj.u9{a:bS}{b:aO}{H:ah}{w c:World}(h:bj P a b H w)(e:c.heap=w.heap):bj P a b H c:=⟨by rw[e];exact h.cI,h.jh,h.aM,h.wr,h.cS,by rw[e];exact h.new,h.jV,by rw[e];exact h.iw,by rw[e];exact h.dO,h.rd,h.un,h.di⟩
theorem cX.u9{g:bS}{w a b:World}(h:cX g w a)(e:b.heap=a.heap)(c:b.os=a.os)(d:b.tape=a.tape)(f:b.output=a.output):cX g w b:=⟨c.trans h.os,d.trans h.tape,f.trans h.output,by rw[e];exact h.size,λk h1 h2=>by rw[e];exact h.block k h1 h2⟩
end
section
variable{P:Program}
theorem qf(b o i:Nat):(⟨b,o,none⟩:Addr).add i=⟨b,o+i,none⟩:=by unfold Addr.add;split<;>simp_all
theorem Fv(w:World){b:Nat}{cs:Array Value}{a:TypeId}{fr:Nat×Nat}(h:w.heap[b]?=some (.cells cs a fr))(o:Nat):w.cell? ⟨b,o,none⟩=cs[o]?:=by simp[World.cell?,h]
theorem P4(w:World){b:Nat}{cs:Array Value}{a:TypeId}{fr:Nat×Nat}(h:w.heap[b]?=some (.cells cs a fr))(o:Nat):w.frozen? ⟨b,o,none⟩=(decide (fr.1<=o)&&decide (o<fr.2)):=by simp[World.frozen?,h]
theorem P5(w:World){b o:Nat}{v:Value}(h:w.cell? ⟨b,o,none⟩=some v):(load ⟨b,o,none⟩).run P w=.ok v w:=by simp[h]
theorem zu(w:World){b:Nat}{cs:Array Value}{c:TypeId}{fr:Nat×Nat}(h:w.heap[b]?=some (.cells cs c fr))(o m:Nat)(d:o+m<=cs.size):(loadCells ⟨b,o,none⟩ m).run P w=.ok ((cs.toList.drop o).take m).toArray w:=by
 have hl:((cs.toList.drop o).take m).length=m:=by simp;omega
 have:=run_loadCells_list (P:=P) w ⟨b,o,none⟩ ((cs.toList.drop o).take m) (λj v a=>by
  rw[qf,Fv w h];rw[List.getElem?_take]at a;split at a;·rw[List.getElem?_drop]at a;simpa using a
  cases a);rw[hl]at this;exact this
def wr(cs:Array Value):Nat->List Value->Array Value
 |_,[]=>cs
 |o,v::l=>wr (cs.setIfInBounds o v) (o+1) l
theorem qh:∀(l:List Value)(cs:Array Value)(o:Nat),(wr cs o l).size=cs.size|[],_,_=>rfl|v::l,cs,o=>by rw[wr,qh l];simp
theorem zw:∀(l:List Value)(cs:Array Value)(o j:Nat),o+l.length<=cs.size->(wr cs o l)[j]?=if o<=j/\j<o+l.length then l[j - o]? else cs[j]?
 |[],cs,o,j,_=>by rw[wr,ap (by simp only[List.length_nil];omega)]
 |v::l,cs,o,j,h=>by
  simp only[afB]at h;rw[wr,zw l _ _ _ (by simp;omega)];simp only[afB];by_cases h1:o+1<=j/\j<o+1+l.length;·rw[aJ h1,aJ ab];rw[show j - o=(j - (o+1))+1 by omega];simp
  rw[ap h1];by_cases h2:j=o;·subst h2;rw[aJ ab];rw[afA];simp;omega
  rw[ap ab,afA,ap (λe=>h2 e.symm)]
theorem P6(w:World){b:Nat}{cs:Array Value}{a:TypeId}{fr:Nat×Nat}(h:w.heap[b]?=some (.cells cs a fr))(o:Nat)(v:Value):(w.setCell ⟨b,o,none⟩ v).heap=w.heap.setIfInBounds b (.cells (cs.setIfInBounds o v) a fr):=by
 have hl:b<w.heap.size:=by
  rcases afZ b w.heap.size with hl|hl;·exact hl
  simp[afU hl]at h
 unfold World.setCell;apply ag6;intro i;simp only[Array.getElem?_modify,afA];by_cases e:b=i;·subst e;rw[aJ rfl,aJ rfl,h];simp[hl]
 rw[ap e,ap e]
theorem Fx(b:Nat)(a:TypeId)(fr:Nat×Nat):∀(l:List Value)(w:World)(cs:Array Value)(o:Nat),w.heap[b]?=some (.cells cs a fr)->(w.setCells b o l).heap=w.heap.setIfInBounds b (.cells (wr cs o l) a fr)/\(w.setCells b o l).os=w.os/\(w.setCells b o l).tape=w.tape/\(w.setCells b o l).output=w.output
 |[],w,cs,o,h=>by
  refine⟨?_,rfl,rfl,rfl⟩;simp only[World.setCells,wr];apply ag6;intro i;rw[afA];split
  .rename_i e;subst e;rw[h];have:b<w.heap.size:=by
    rcases afZ b w.heap.size with hl|hl;·exact hl
    simp[afU hl]at h
   simp[this]
  rfl
 |v::l,w,cs,o,h=>by
  have h1:=P6 w h o v;have hl:b<w.heap.size:=by
   rcases afZ b w.heap.size with hl|hl;·exact hl
   simp[afU hl]at h
  have h2:(w.setCell ⟨b,o,none⟩ v).heap[b]?=some (.cells (cs.setIfInBounds o v) a fr):=by rw[h1,afA];simp[hl]
  obtain⟨c,d,f,g⟩:=Fx b a fr l (w.setCell ⟨b,o,none⟩ v) _ (o+1) h2;simp only[World.setCells,wr];refine⟨?_,d,f,g⟩;rw[c,h1];apply ag6;intro i;simp only[afA,Array.size_setIfInBounds];split<;>rfl
theorem Jv(w:World){b:Nat}{cs:Array Value}{a:TypeId}{fr:Nat×Nat}(h:w.heap[b]?=some (.cells cs a fr))(o:Nat)(l:List Value)(d:o+l.length<=cs.size)(c:∀i,o<=i->i<o+l.length->¬(fr.1<=i/\i<fr.2))(h1:∀v∈l,v.oneCell'=true):(storeCells ⟨b,o,none⟩ l).run P w=.ok () (w.setCells b o l):=by have:=run_storeCells_cells (P:=P) b o l 0 w (λj hj=>by rw[Fv w h];simp;omega) (λj hj=>by rw[P4 w h];have:=c (o+0+j) ab ab;simp only[Bool.and_eq_false_iff,decide_eq_false_iff_not];omega) h1;simpa using this
theorem lh:∀(l:List AV)(c:ak AV)(o j:Nat),(dY c o l).bp .ahp j=if o<=j/\j<o+l.length then l.getD (j - o) .ahp else c.bp .ahp j
 |[],c,o,j=>by rw[dY,ap (by simp only[List.length_nil];omega)]
 |v::l,c,o,j=>by
  rw[dY,lh l,ak.Fu _ _ _ _ _ _ (adv _)];simp only[afB];by_cases h1:o+1<=j/\j<o+1+l.length;·rw[aJ h1,aJ ab,show j - o=(j - (o+1))+1 by omega];simp
  rw[ap h1];by_cases h2:j=o;·subst h2;rw[aJ rfl,aJ ab];simp
  rw[ap h2,ap ab]
theorem me(l:List AV)(j:Nat)(h:j<l.length):(bX l).bp .ahp j=l.getD j .ahp:=by rw[bX,lh,aJ ab];simp
theorem Bw:∀(m:Nat)(c:ak AV)(n o:Nat)(l:List AV),eX c n o m=some l->l.length=m/\(0<m->o+m<=n)/\∀j,j<m->l[j]?=some (c.bp .ahp (o+j))
 |0,c,n,o,l,h=>by simp only[eX,aaM]at h;subst h;simp
 |m+1,c,n,o,l,h=>by
  simp only[eX]at h;split at h
  .rename_i b;split at h
   .rename_i a hl;simp only[aaM]at h;subst h;obtain⟨h1,h2,h3⟩:=Bw m c n (o+1) a hl;refine⟨by simp[h1],λ_=>by
     rcases agX m with e|e;·omega
     have:=h2 e;omega,λj hj=>?_⟩;cases j with|zero=>simp|succ j=>simp only[af9];rw[h3 j ab];congr 2;omega
   cases h
  cases h
theorem Bx{g:aO}{c:ak AV}{n e:Nat}{f:Bool}{aM:List af}{fz x:Nat}{cs:Array Value}{p:TypeId}{fr:Nat×Nat}(h:OR P g (.cells c n e f aM fz) x (.cells cs p fr)){o m:Nat}{l:List AV}(hl:eX c n o m=some l):aQ g l ((cs.toList.drop (x+o)).take m)/\(0<m->x+o+m<=cs.size):=by
 simp only[OR]at h;obtain⟨_,h2,h3,_⟩:=h;obtain⟨j,k,a3⟩:=Bw m c n o l hl;have d:0<m->x+o+m<=cs.size:=λq=>by have:=k q;omega
 refine⟨aQ.Ft ?_ ?_,d⟩
 .rcases agX m with e|e;·subst e;simp[j]
  have:=d e;simp[j];omega
 intro i v t a b;have hi:i<m:=by
  rcases afZ i m with h|h;·exact h
  rw[agV ab]at a;cases a
 rw[a3 i hi]at a;injection a with a;subst a;have:=k ab;obtain⟨y,r,s⟩:=h3 (o+i) ab;rw[List.getElem?_take,aJ hi,List.getElem?_drop,aga]at b;rw[show x+o+i=x+(o+i)by omega,r]at b;injection b with b;subst b;exact s
theorem aQ.Fy{b:aO}:∀{l:List AV}{m:List Value},aQ b l m->cL l=true->∀v∈m,v.oneCell'=true
 |[],[],_,_,_,h=>by cases h
 |a::l,c::m,k,h,v,d=>by
  simp only[aQ]at k;simp only[cL,ae9]at h;rcases acn.1 d with e|e;·subst e;have:=VR.dg k.1 h.1;cases v<;>simp_all[Value.oneCell']
  exact aQ.Fy k.2 h.2 v e
 |[],_::_,k,_,_,_=>by simp[aQ]at k
 |_::_,[],k,_,_,_=>by simp[aQ]at k
theorem zx{v:bS}{t:aO}{H D:ah}{w:World}(h:bj P v t H w){i:af}{o:Nat}{l:List AV}(d:fS H i o l=some D){b x:Nat}(hb:t i=some (b,x)){m:List Value}(z:aQ t l m):(storeCells ⟨b,x+o,none⟩ m).run P w=.ok () (w.setCells b (x+o) m)/\bj P v t D (w.setCells b (x+o) m)/\cX v w (w.setCells b (x+o) m):=by
 unfold fS at d;split at d
 .rename_i c n e aM fz hi;split at d
  .rename_i E;simp only[ae9,decide_eq_true_eq]at E;obtain⟨⟨S,T⟩,C⟩:=E;injection d with d;subst d;have f:H.get i≠.none:=by rw[hi];simp
   obtain⟨V,W,J,u,hl,g,a⟩:=h.bm f;rw[hb]at u;injection u with u;injection u with A B;subst A;subst B;rw[hi]at a;cases J with
   |cells cs F fr=>
    simp only[OR]at a;obtain⟨K,L,M,G⟩:=a;have I:=aQ.length z;have s:=Jv (P:=P) w g (x+o) m ab (λj p k=>G trivial j ab ab) (aQ.Fy z C);obtain⟨A,B,N,O⟩:=Fx b F fr m w cs (x+o) g;have:=h.nV (i:=i) (o':=.cells (dY c o l) n e true [] fz) (ob':=.cells (wr cs (x+o) m) F fr) f (by rw[hi];rfl) hb rfl (by
     simp only[OR];refine⟨K,by rw[qh];exact L,λj hj=>?_,λ_ j p k=>G trivial j p (by rw[qh]at k;exact k)⟩;rw[lh,zw _ _ _ _ ab];by_cases q:o<=j/\j<o+l.length;·rw[aJ q,aJ ab,show x+j - (x+o)=j - o by omega];have r:j - o<l.length:=ab;obtain⟨y,Q,R⟩:=aQ.get z (j - o) l[j - o] (by simp[r]);exact⟨y,Q,by simpa[ahn,r]using R⟩
     rw[ap q,ap ab];exact M j hj) (by have:=h.iw i b x _ f hb g;rw[hi]at this;simp only[dI]at this⊢;rw[qh];exact this) A B N O;rw[hi]at this;exact⟨s,this.1,this.2⟩
   |_=>simp[OR]at a
  cases d
 cases d
end
section
variable{P:Program}
theorem bj.Jw{Wr:bS}{G:aO}{H:ah}{dv:World}(h:bj P Wr G H dv){i:af}{c:ak AV}{m e:Nat}{aM:List af}{fz:Nat}(hi:H.get i=.cells c m e true aM fz){b x:Nat}(hb:G i=some (b,x)){c2:ak AV}{n2 e2 fz2 b2 x2:Nat}{ob2:Obj}(q:Nat×Nat)(hq:dI P q (.cells c2 n2 e2 true (i::aM) fz2) ob2)(a':b2=b->q=G.k b)(hr:OR P (G.add H.next b2 x2 q) (.cells c2 n2 e2 true (i::aM) fz2) x2 ob2){w':World}(ba:w'.os=dv.os)(bb:w'.tape=dv.tape)(bd:w'.output=dv.output)(d:(b2=dv.heap.size/\w'.heap=dv.heap.push ob2)\/(b2=b/\w'.heap=dv.heap.setIfInBounds b ob2/\x+m<=x2+n2/\∃cs O el fr,dv.heap[b]?=some (.cells cs el fr)/\ob2=.cells O el fr/\O.size=cs.size/\∀j,j<x+m->O[j]?=cs[j]?)):bQ G (G.add H.next b2 x2 q)/\bj P Wr (G.add H.next b2 x2 q) ((H.set i (.cells c m e false aM fz)).new (.cells c2 n2 e2 true (i::aM) fz2)) w'/\cX Wr dv w':=by
 have D:H.get i≠.none:=by rw[hi];simp
 have a1:(H.get i).jg=false:=by rw[hi];rfl
 have K:(H.get i).aM=aM:=by rw[hi];rfl
 have Q:(H.get i).len=m:=by rw[hi];rfl
 have hf:=h.cS H.next (adv _);have p:bQ G (G.add H.next b2 x2 q):=aO.oZ b2 x2 q hf.2 (λj o y e' u=>by
  rcases d with⟨h1,_⟩|⟨h1,_⟩;·have:=h.dO j o y e';omega
  rw[h1];exact(a' h1).symm);have bv:i≠H.next:=λe=>D (e▸hf.1);obtain⟨dr,x',ob,e',hl,cR,c9⟩:=h.bm D;rw[hb]at e';injection e' with e';injection e' with r b0;subst r;subst b0;have a2:Wr.w b:=h.wr i b x D a1 hb;have l:∀j,((H.set i (.cells c m e false aM fz)).new (.cells c2 n2 e2 true (i::aM) fz2)).get j=if j=H.next then .cells c2 n2 e2 true (i::aM) fz2 else if j=i then .cells c m e false aM fz else H.get j:=by intro j;rw[ah.cz,ah.d8,ah.aC]
 have n:∀j,j≠H.next->(if j=i then(bL.cells c m e false aM fz)else H.get j)≠.none->H.get j≠.none:=by
  intro j _ hj;by_cases e:j=i;·subst e;exact D
  rwa[ap e]at hj
 have f:∀j,(if j=i then(bL.cells c m e false aM fz)else H.get j).aM=(H.get j).aM/\(if j=i then(bL.cells c m e false aM fz)else H.get j).len=(H.get j).len:=by
  intro j;by_cases e:j=i;·subst e;rw[aJ rfl,hi];exact⟨rfl,rfl⟩
  rw[ap e];exact⟨rfl,rfl⟩
 have F:∀j y,j≠i->H.get j≠.none->G j=some (b,y)->j∈aM/\y+(H.get j).len<=x+m:=by
  intro j y V hj a;rcases h.jh i j b x y (λe=>V e.symm) D hj hb a with⟨hm,_⟩|⟨hm,a6⟩;·have:=(h.aM i j hm).2 D;rw[a1]at this;cases this
  rw[K]at hm;rw[Q]at a6;exact⟨hm,a6⟩
 have ag:∀j o y,H.get j≠.none->G j=some (o,y)->o=b2->(j=i\/j∈aM)/\y+(H.get j).len<=x2+n2:=by
  intro j o y hj a u;rcases d with⟨h1,_⟩|⟨h1,_,h3,_⟩;·obtain⟨b3,y',_,W,b4,_⟩:=h.bm hj;rw[a]at W;injection W with W;injection W with A _;omega
  by_cases e:j=i;·subst e;rw[hb]at a;injection a with a;injection a with _ a;subst a;exact⟨.inl rfl,by rw[Q];exact h3⟩
  have b6:o=b:=u.trans h1;subst b6;obtain⟨E,J⟩:=F j y e hj a;exact⟨.inr E,ab⟩
 refine⟨p,⟨?_,?_,?_,?_,?_,?_,?_,?_,?_,?_,?_,?_⟩,⟨ba,bb,bd,?_,?_⟩⟩
 .intro j hj;rw[l]at hj⊢;by_cases Y:j=H.next
  .subst Y;rw[aJ rfl];refine⟨b2,x2,ob2,aO.dU ..,?_,hr⟩;rcases d with⟨h1,h2⟩|⟨h1,h2,_⟩;·rw[h2,h1];simp
   rw[h2,h1,afA];simp[hl]
  rw[ap Y]at hj⊢;have s:=n j Y hj;obtain⟨o,y,oc,T,c',u,M⟩:=h.bm s;have C:OR P G (if j=i then(bL.cells c m e false aM fz)else H.get j) y oc:=by
   by_cases A:j=i;·subst A;rw[aJ rfl];rw[hi]at M;cases oc<;>simp only[OR]at M⊢;exact⟨M.1,M.2.1,M.2.2.1,λh=>by cases h⟩
   rw[ap A];exact M
  rcases d with⟨h1,h2⟩|⟨h1,h2,h3,cs,O,el,fr,E,J,g3,g4⟩;·exact⟨o,y,oc,(p _ _ T).1,by rw[h2,agF,ap ab];exact u,OR.mono p C⟩
  by_cases e4:o=b
  .subst e4;rw[u]at E;injection E with E;subst E;refine⟨o,y,ob2,(p _ _ T).1,by rw[h2,afA];simp[hl],OR.mono p ?_⟩;subst J;have cE:y+(H.get j).len<=x+m:=by
    by_cases A:j=i;·subst A;rw[hb]at T;injection T with T;injection T with _ T;rw[Q];omega
    exact(F j y A s T).2
   have R:(if j=i then(bL.cells c m e false aM fz)else H.get j).jg=true:=by
    by_cases A:j=i;·rw[aJ A];rfl
    rw[ap A];exact(h.aM j i (by rw[K];exact(F j y A s T).1)).2 s
   have av:=(f j).2;generalize(if j=i then(bL.cells c m e false aM fz)else H.get j)=oj at C R av;cases oj with
   |cells c5 n5 e5 b7 p5 f5=>
    simp only[OR]at C⊢;obtain⟨k1,k2,k3,k4⟩:=C;have dm:n5=(H.get j).len:=av;have b':b7=false:=by simpa[bL.jg]using R
    refine⟨k1,ab,λt ht=>?_,λh=>by rw[b']at h;cases h⟩;obtain⟨v,hv,ca⟩:=k3 t ht;exact⟨v,by rw[g4 _ ab];exact hv,ca⟩
   |_=>simp[bL.jg]at R
  exact⟨o,y,oc,(p _ _ T).1,by rw[h2,afA,ap (λh=>e4 h.symm)];exact u,OR.mono p C⟩
 .intro j ds o y z a8 hj B a Z;rw[l]at hj B;rw[l,l];by_cases r:j=H.next
  .subst r;have e2:ds≠H.next:=λh=>a8 h.symm;rw[ap e2]at B⊢;rw[aJ rfl];have I:=n ds e2 B;simp only[aO.add,ap e2]at Z;rw[aO.dU]at a;injection a with a;injection a with cd cf;obtain⟨E,J⟩:=ag ds o z I Z cd.symm;right;refine⟨?_,?_⟩
   .show ds∈i::aM;rcases E with g|g;·rw[g];exact abL ..
    exact aco _ g
   rw[(f ds).2,<-cf];exact J
  by_cases e2:ds=H.next
  .subst e2;rw[ap r]at hj⊢;rw[aJ rfl];have s:=n j r hj;simp only[aO.add,ap r]at a;rw[aO.dU]at Z;injection Z with Z;injection Z with cn cp;obtain⟨E,J⟩:=ag j o y s a cn.symm;left;refine⟨?_,?_⟩
   .show j∈i::aM;rcases E with g|g;·rw[g];exact abL ..
    exact aco _ g
   rw[(f j).2,<-cp];exact J
  rw[ap r]at hj⊢;rw[ap e2]at B⊢;have s:=n j r hj;have I:=n ds e2 B;simp only[aO.add,ap r,ap e2]at a Z;rw[(f j).1,(f j).2,(f ds).1,(f ds).2];exact h.jh j ds o y z a8 s I a Z
 .intro j ds B;rw[l]at B;rw[l];have ay:((H.set i (.cells c m e false aM fz)).new (.cells c2 n2 e2 true (i::aM) fz2)).next.am=H.next.am+1:=by show(H.next.succ).am=_;exact af.eI _
  rw[ay];by_cases e2:ds=H.next
  .rw[aJ e2]at B;have I:j∈i::aM:=B;rcases acn.1 I with g|g;·subst g;have:=h.Bv D;refine⟨ab,λ_=>?_⟩;rw[ap bv,aJ rfl];rfl
   obtain⟨E,J⟩:=h.aM j i (by rw[K];exact g);refine⟨ab,λhj=>?_⟩;have r:j≠H.next:=λe=>by subst e;omega
   rw[ap r]at hj⊢;by_cases A:j=i;·rw[aJ A];rfl
   rw[ap A]at hj⊢;exact J hj
  rw[ap e2,(f ds).1]at B;obtain⟨E,J⟩:=h.aM j ds B;refine⟨ab,λhj=>?_⟩;have r:j≠H.next:=λe=>by subst e;omega
  rw[ap r]at hj⊢;by_cases A:j=i;·rw[aJ A];rfl
  rw[ap A]at hj⊢;exact J hj
 .intro j o y hj N a;rw[l]at hj N;by_cases r:j=H.next
  .subst r;rw[aO.dU]at a;injection a with a;injection a with a _;rcases d with⟨h1,_⟩|⟨h1,_⟩;·exact(h.new o ab).1
   rw[<-a,h1];exact a2
  rw[ap r]at hj N;simp only[aO.add,ap r]at a;by_cases A:j=i;·rw[aJ A]at N;cases N
  rw[ap A]at hj N;exact h.wr j o y hj N a
 .intro j hj;have s:H.next.succ.am<=j.am:=hj;rw[af.eI]at s;have r:j≠H.next:=λe=>by subst e;omega
  have A:j≠i:=λe=>by subst e;have:=h.Bv D;omega
  rw[l,ap r,ap A];obtain⟨E,J⟩:=h.cS j ab;exact⟨E,by simp[aO.add,r,J]⟩
 .intro ds B;refine h.new ds ?_;rcases d with⟨_,h2⟩|⟨_,h2,_⟩;·rw[h2]at B;simp at B;omega
  rw[h2]at B;simpa using B
 .intro g hg;exact(p _ _ (h.jV g hg)).1
 .intro j o y oc hj a u;rw[l]at hj⊢;by_cases Y:j=H.next
  .subst Y;rw[aO.dU]at a;injection a with a;injection a with a _;subst a;rw[aJ rfl,aO.pZ];have:oc=ob2:=by
    rcases d with⟨h1,h2⟩|⟨h1,h2,_⟩;·rw[h2,h1,agF,aJ rfl]at u;injection u with u;exact u.symm
    rw[h2,h1,afA]at u;simp only[hl,bf,aaM]at u;exact u.symm
   rw[this];exact hq
  rw[ap Y]at hj⊢;have s:=n j Y hj;simp only[aO.add,ap Y]at a;rw[show(G.add H.next b2 x2 q).k o=G.k o from(p _ _ a).2];have b4:=h.dO j o y a;obtain⟨b3,y',aw,X,_,L,_⟩:=h.bm s;rw[a]at X;injection X with X;injection X with cv cx;subst cv;subst cx;have S:=h.iw j o y aw s a L;have dV:dI P (G.k o) (if j=i then(bL.cells c m e false aM fz)else H.get j) aw:=by
   by_cases A:j=i;·subst A;rw[aJ rfl];rw[hi]at S;cases aw<;>exact S
   rw[ap A];exact S
  rcases d with⟨h1,h2⟩|⟨h1,h2,h3,cs,O,el,fr,E,J,g3,g4⟩;·rw[h2,agF,ap ab,L]at u;injection u with u;rw[<-u];exact dV
  rw[h2,afA]at u;by_cases e4:b=o;·subst e4;simp only[hl,bf,aaM]at u;rw[L]at E;injection E with E;subst E;rw[<-u,J];generalize(if j=i then(bL.cells c m e false aM fz)else H.get j)=oj at dV;cases oj<;>simp only[dI]at dV⊢;rw[g3];exact dV
  rw[ap e4,L]at u;injection u with u;rw[<-u];exact dV
 .intro j o y a;by_cases r:j=H.next
  .subst r;rw[aO.dU]at a;injection a with a;injection a with a _;rcases d with⟨h1,h2⟩|⟨h1,h2,_⟩;·rw[h2,Array.size_push];omega
   rw[h2,Array.size_setIfInBounds];omega
  simp only[aO.add,ap r]at a;have:=h.dO j o y a;rcases d with⟨h1,h2⟩|⟨h1,h2,_⟩;·rw[h2,Array.size_push];omega
  rw[h2,Array.size_setIfInBounds];omega
 .intro j o y hj a;rw[l]at hj;by_cases r:j=H.next
  .subst r;rw[aO.dU]at a;injection a with a;injection a with a _;rcases d with⟨h1,_⟩|⟨h1,_⟩;·exact(h.new o ab).2
   rw[<-a,h1];exact h.rd i b x D hb
  rw[ap r]at hj;simp only[aO.add,ap r]at a;exact h.rd j o y (n j r hj) a
 .intro j hj;obtain⟨h1,h2,h3⟩:=h.un j hj;have ax:j≠H.next:=λe=>by subst e;omega
  have V:j≠i:=λe=>D (by rw[<-e];exact h1);refine⟨by rw[l,ap ax,ap V];exact h1,?_,λds B=>?_⟩;·show j.am<H.next.succ.am;rw[af.eI];omega
  rw[l]at B;by_cases e2:ds=H.next
  .rw[aJ e2]at B;have I:j∈i::aM:=B;rcases acn.1 I with g|g;·exact V g
   exact h3 i (by rw[K];exact g)
  rw[ap e2,(f ds).1]at B;exact h3 ds B
 .intro j hj;obtain⟨h1,h2⟩:=h.di j hj;have ax:j≠H.next:=λe=>by have:=(h.un j h1).2.1;subst e;omega
  exact⟨h1,by simp[aO.add,ax,h2]⟩
 .rcases d with⟨_,h2⟩|⟨_,h2,_⟩<;>rw[h2]<;>simp
 intro ds B cy;rcases d with⟨_,h2⟩|⟨_,h2,_⟩;·rw[h2,agF,ap ab]
 have:ds≠b:=λe=>cy (e▸a2);rw[h2,afA,ap (λh=>this h.symm)]
end
section
mutual
theorem By(ρ:aO):∀(v:Value)(a:AV),fB v=some a->VR ρ a v
 |.bool b,a,h=>by simp only[fB,aaM]at h;subst h;simp[VR]
 |.int k n,a,h=>by simp only[fB,aaM]at h;subst h;simp[VR]
 |.string s,a,h=>by simp only[fB,aaM]at h;subst h;simp[VR]
 |.pointer none,a,h=>by simp only[fB,aaM]at h;subst h;simp[VR]
 |.slice none 0 0,a,h=>by simp only[fB,aaM]at h;subst h;simp[VR]
 |.map none,a,h=>by simp only[fB,aaM]at h;subst h;simp[VR]
 |.nilFunc,a,h=>by simp only[fB,aaM]at h;subst h;simp[VR]
 |.nilIface,a,h=>by simp only[fB,aaM]at h;subst h;simp[VR]
 |.func (.func f) x y,a,h=>by
  simp only[fB]at h
  split at h
  .rename_i l m hl d
   injection h with h;subst h
   simp only[VR]
   exact⟨trivial,zy ρ x.toList l hl,zy ρ y.toList m d⟩
  .cases h
 |.agg l,a,h=>by
  simp only[fB,adN]at h
  obtain⟨m,d,h⟩:=h;subst h
  simp only[VR];exact zy ρ l.toList m d
 |.tuple l,a,h=>by
  simp only[fB,adN]at h
  obtain⟨m,d,h⟩:=h;subst h
  simp only[VR];exact zy ρ l.toList m d
 |.iface t v,a,h=>by
  simp only[fB,adN]at h
  obtain⟨m,d,h⟩:=h;subst h
  simp only[VR];exact⟨trivial,By ρ v m d⟩
 |.float ..,a,h=>by simp[fB]at h
 |.complex ..,a,h=>by simp[fB]at h
 |.pointer (some _),a,h=>by simp[fB]at h
 |.slice (some _) _ _,a,h=>by simp[fB]at h
 |.slice none (_+1) _,a,h=>by simp[fB]at h
 |.slice none 0 (_+1),a,h=>by simp[fB]at h
 |.map (some _),a,h=>by simp[fB]at h
 |.chan _,a,h=>by simp[fB]at h
 |.func (.method _) _ _,a,h=>by simp[fB]at h
 |.func (.methodOf ..) _ _,a,h=>by simp[fB]at h
 |.func (.via ..) _ _,a,h=>by simp[fB]at h
 |.func (.yield _) _ _,a,h=>by simp[fB]at h
theorem zy(ρ:aO):∀(l:List Value)(m:List AV),rc l=some m->aQ ρ m l
 |[],m,h=>by simp only[rc,aaM]at h;subst h;simp[aQ]
 |v::l,m,h=>by
  simp only[rc]at h
  split at h
  .rename_i a b d e
   injection h with h;subst h
   simp only[aQ];exact⟨By ρ v a d,zy ρ l b e⟩
  .cases h
end
section jp
variable{ρ:aO}{c:Value}
theorem VR.li{i:af}{o:Nat}(h:VR ρ (.aE i o) c):∃b x,ρ i=some (b,x)/\c=.pointer (some ⟨b,x+o,none⟩):=by
 cases c with
 |pointer p=>cases p with|none=>simp only[VR]at h|some p=>simp only[VR]at h;obtain⟨b,x,h1,h2⟩:=h;exact⟨b,x,h1,by rw[h2]⟩
 |_=>simp only[VR]at h
theorem VR.Bz(h:VR ρ .kn c):c=.pointer none:=by
 cases c with
 |pointer p=>cases p with|none=>rfl|some p=>simp only[VR]at h
 |_=>simp only[VR]at h
theorem VR.nW{b:Bool}(h:VR ρ (.bool b) c):c=.bool b:=by cases c<;>simp only[VR]at h;rw[h]
theorem VR.ie{k:Nat}{n:Int}(h:VR ρ (.int k n) c):∃a,k=kc a/\c=.int a n:=by cases c<;>simp only[VR]at h;exact⟨_,h.1,by rw[h.2]⟩
theorem VR.kJ{s:List Nat}(h:VR ρ (.str s) c):∃t:ByteArray,t.data.toList.map agW=s/\c=.string t:=by cases c<;>simp only[VR]at h;exact⟨_,h,rfl⟩
theorem VR.lN{i:af}{o len cap:Nat}{ex:Bool}(h:VR ρ (.slice i o len cap ex) c):∃ad a,c=.slice (some ad) len a/\len<=cap/\cap<=a/\(ex=true->a=cap)/\∃b x,ρ i=some (b,x)/\(a≠0->ad=⟨b,x+o,none⟩)/\(ex=false->x+o+a*(ρ.k b).2<=(ρ.k b).1):=by
 cases c with
 |slice p n a=>cases p with|none=>simp only[VR]at h|some p=>simp only[VR]at h;obtain⟨h1,h2,h3,d,b,x,e,f,g⟩:=h;exact⟨p,a,by rw[h1],h2,h3,d,b,x,e,f,g⟩
 |_=>simp only[VR]at h
theorem VR.kK(h:VR ρ .aH c):c=.slice none 0 0:=by
 cases c with
 |slice p n a=>cases p with|none=>cases n<;>cases a<;>simp only[VR]at h<;>rfl|some p=>simp only[VR]at h
 |_=>simp only[VR]at h
theorem VR.lO{i:af}(h:VR ρ (.map i) c):∃b,ρ i=some (b,0)/\c=.map (some b):=by
 cases c with
 |map p=>cases p with|none=>simp only[VR]at h|some p=>simp only[VR]at h;exact⟨p,h,rfl⟩
 |_=>simp only[VR]at h
theorem VR.qi(h:VR ρ .cC c):c=.map none:=by
 cases c with
 |map p=>cases p with|none=>rfl|some p=>simp only[VR]at h
 |_=>simp only[VR]at h
theorem VR.pa{l:List AV}(h:VR ρ (.agg l) c):∃cs:Array Value,aQ ρ l cs.toList/\c=.agg cs:=by cases c<;>simp only[VR]at h;exact⟨_,h,rfl⟩
theorem VR.P7{l:List AV}(h:VR ρ (.tuple l) c):∃cs:Array Value,aQ ρ l cs.toList/\c=.tuple cs:=by cases c<;>simp only[VR]at h;exact⟨_,h,rfl⟩
theorem VR.vc{t:Nat}{v:AV}(h:VR ρ (.iface t v) c):∃x,VR ρ v x/\c=.iface t x:=by cases c<;>simp only[VR]at h;exact⟨_,h.2,by rw[h.1]⟩
theorem VR.zA(h:VR ρ .nilIface c):c=.nilIface:=by cases c<;>simp only[VR]at h;rfl
theorem VR.BA{f:Nat}{a b:List AV}(h:VR ρ (.func f a b) c):∃x y:Array Value,aQ ρ a x.toList/\aQ ρ b y.toList/\c=.func (.func f) x y:=by cases c with|func fn x y=>cases fn<;>simp only[VR]at h;exact⟨x,y,h.2.1,h.2.2,by rw[h.1]⟩|_=>simp only[VR]at h
theorem VR.BB{i:af}(h:VR ρ (.yield i) c):∃b,ρ i=some (b,0)/\c=.func (.yield b) #[] #[]:=by cases c with|func fn x y=>cases fn<;>simp only[VR]at h;exact⟨_,h.1,by rw[h.2.1,h.2.2]⟩|_=>simp only[VR]at h
theorem VR.vf(h:VR ρ .nilFunc c):c=.nilFunc:=by cases c with|nilFunc=>rfl|func fn x y=>cases fn<;>simp only[VR]at h|_=>simp only[VR]at h
end jp
variable{P:Program}
theorem bJ{t:TypeId}{d:TypeDesc}(h:P.underlying t=some d)(w:World):(underlying t).run P w=.ok d w:=by simp[underlying,h]
theorem Jx{t:TypeId}{s:Nat}(h:dZ P t=some s):∃i,P.info? t=some i/\i.size=s:=by simpa[dZ,adN]using h
theorem Fz{t:TypeId}{s:Nat}(h:uU P t=some s):∃i,P.info? t=some i/\i.bytes=s:=by simpa[uU,adN]using h
theorem vh{t:TypeId}{i:TypeInfo}(h:P.info? t=some i)(w:World):(typeInfo t).run P w=.ok i w:=by simp[typeInfo,h]
theorem gU{t:TypeId}{s:Nat}(h:dZ P t=some s)(w:World):(sizeOf t).run P w=.ok s w:=by obtain⟨i,h1,h2⟩:=Jx h;simp[sizeOf,vh h1,h2]
theorem P8{v:Value}{z:AV}(h:fB v=some z):z.bC=true:=by
 cases z<;>first|rfl|skip
 exfalso;unfold fB at h;split at h<;>(first|(cases h;done)|(rw[adN]at h;obtain⟨_,_,h⟩:=h;cases h;done)|(split at h<;>first|(cases h;done)|skip))
theorem Jy{v:AV}(h:cL v.cells=true):v.bC=true:=by cases v<;>first|rfl|(simp[AV.cells,cL,AV.dg]at h)
theorem P9{t:TypeId}{z:AV}(h:mc P t=some z):∃i v,P.info? t=some i/\i.zero=some v/\fB v=some z:=by simp only[mc,aaU]at h;obtain⟨i,h1,v,h2,h3⟩:=h;exact⟨i,v,h1,h2,h3⟩
theorem qj{t:TypeId}{z:AV}(h:mc P t=some z):∃v,(∀w,(zeroValue t).run P w=.ok v w)/\(∀ρ,VR ρ z v)/\z.bC=true:=by obtain⟨i,v,h1,h2,h3⟩:=P9 h;exact⟨v,λw=>by simp[zeroValue,vh h1,h2],λρ=>By ρ v z h3,P8 h3⟩
theorem zB{t:TypeId}{b:Bool}(h:lL P t=some b)(w:World):(isAgg t).run P w=.ok b w:=by simp only[lL,adN]at h;obtain⟨d,h1,h2⟩:=h;simp only[isAgg,Sem.run_bind,bJ h1,Result.andThen_ok];cases d<;>simp_all
theorem vi{i:bS}{ρ:aO}{H:ah}{w:World}{e:Nat}{x:Operand}{h:aL}(b:eC P e x=some h){aa:ak AV}{a:Act}(j:gj ρ e aa a.tmps)(k:bj P i ρ H w):VR ρ (gv aa h) (a.eval x):=by
 cases x with
 |tmp t=>
  simp only[eC]at b;split at b;·rename_i d;injection b with b;subst b;exact j.2 t d
  cases b
 |const v=>simp only[eC,adN]at b;obtain⟨c,l,b⟩:=b;subst b;exact By ρ v c l
 |global g=>
  simp only[eC]at b;split at b;·rename_i d;injection b with b;subst b;simp only[gv,Act.eval,VR];exact⟨g,0,k.jV g d,rfl⟩
  cases b
 |func f=>simp only[eC,aaM]at b;subst b;simp[gv,Act.eval,VR,aQ]
theorem vj{f:bS}{ρ:aO}{H:ah}{w:World}{b:Nat}{aa:ak AV}{a:Act}(d:gj ρ b aa a.tmps)(e:bj P f ρ H w):∀{l:List Operand}{ol:List aL},l.mapM (eC P b)=some ol->aQ ρ (ol.map (gv aa)) (l.map a.eval)|[],ol,h=>by simp at h;subst h;simp[aQ]|x::l,ol,h=>by simp only[ag5,acC,aaU,aeO,aaM]at h;obtain⟨i,h1,g,h2,h3⟩:=h;subst h3;simp only[afp,aQ];exact⟨vi h1 d e,vj d e h2⟩
def ae3(P:Program)(s:Sem Value)(w:World)(Q:Value->World->Prop):Prop:=∃v w',s.run P w=.ok v w'/\Q v w'
def bZ(P:Program)(b:bS)(ρ:aO)(w:World)(v:AV)(d:ah)(c:Value)(w':World):Prop:=
 ∃a,bQ ρ a/\VR a v c/\bj P b a d w'/\cX b w w'
theorem bZ.bN{a:bS}{ρ:aO}{H:ah}{w:World}{v:AV}{c:Value}(b:bj P a ρ H w)(h:VR ρ v c):bZ P a ρ w v H c w:=⟨ρ,bQ.refl ρ,h,b,cX.refl a w⟩
theorem vl{f:bS}{ρ:aO}{H:ah}{w:World}(g:bj P f ρ H w){l:List AV}{m:List Value}(h:aQ ρ l m)(e n:Nat)(r:n=l.length)(a:List Value):bQ ρ (ρ.add H.next w.heap.size 0 ((m++a).length,(dZ P e).getD 0))/\bj P f (ρ.add H.next w.heap.size 0 ((m++a).length,(dZ P e).getD 0)) (H.new (.cells (bX l) n e true [] 0)) {w with heap:=w.heap.push (.cells (m++a).toArray e (0,0))}/\cX f w {w with heap:=w.heap.push (.cells (m++a).toArray e (0,0))}:=by
 have d:bQ ρ (ρ.add H.next w.heap.size 0 ((m++a).length,(dZ P e).getD 0)):=aO.oZ w.heap.size 0 _ (g.cS H.next (adv _)).2 (λj c y o s=>by have:=g.dO j c y o;omega);refine g.alloc _ (by simp[dI]) aF rfl ?_;have k:=aQ.length h;simp only[OR];refine⟨trivial,by simp;omega,λi hi=>?_,λ_ i _ _=>by omega⟩;have b:i<l.length:=ab;obtain⟨y,p,q⟩:=aQ.get h i l[i] (by simp[b]);refine⟨y,?_,?_⟩;·have:i<m.length:=ab;simp[afG this,p]
 rw[me l i b];exact VR.mono d _ _ (by simpa[ahn,b]using q)
end
section
variable{P:Program}
def bt(P:Program)(b:bS)(ρ:aO)(w:World)(s:Sem Next)(v:AV)(H':ah):Prop:=
 ∃c w',(s.run P w=.ok (.value c) w'\/(s.run P w=.ok .skip w'/\c=undef))/\bZ P b ρ w v H' c w'
theorem bt.val{b:bS}{ρ:aO}{w w':World}{s:Sem Next}{v:AV}{H':ah}{c:Value}(h:s.run P w=.ok (.value c) w')(d:bZ P b ρ w v H' c w'):bt P b ρ w s v H':=⟨c,w',.inl h,d⟩
section
variable{b:bS}{ρ:aO}{H H':ah}{w:World}{nt:Nat}{aa:ak AV}{a:Act}{o:Oper}{ao:bE}{v:AV}
structure cO(P:Program)(Wr:bS)(ρ:aO)(H:ah)(w:World)(nt:Nat)(aa:ak AV)(a:Act):Prop where
 E:gj ρ nt aa a.tmps
 I:bj P Wr ρ H w
theorem cO.gv(h:cO P b ρ H w nt aa a){x:Operand}{c:aL}(d:eC P nt x=some c):VR ρ (gv aa c) (a.eval x):=vi d h.E h.I
theorem Jz(h:cO P b ρ H w nt aa a){x:Operand}(c:o.op=.move x\/o.op=.assign x)(f:bG P nt o=some ao)(he:aD ao aa H=some (v,H')):bt P b ρ w (execOp a.eval o) v H':=by
 have e:∃d,eC P nt x=some d/\ao=.aR d:=by rcases c with c|c<;>simp only[bG,c,acC,aaU,aeO,aaM]at f<;>obtain⟨d,h1,h2⟩:=f<;>exact⟨d,h1,h2.symm⟩
 obtain⟨d,h1,rfl⟩:=e;simp only[aD,aaM,abS]at he;obtain⟨rfl,rfl⟩:=he;refine bt.val (c:=a.eval x) (w':=w) ?_ (bZ.bN h.I (h.gv h1));rcases c with c|c<;>simp[execOp,c]
theorem Qa(h:cO P b ρ H w nt aa a){c x y:Operand}(d:o.op=.pick c x y)(e:bG P nt o=some ao)(he:aD ao aa H=some (v,H')):bt P b ρ w (execOp a.eval o) v H':=by
 simp only[bG,d,acC,aaU,aeO,aaM]at e;obtain⟨j,h1,k,h2,l,h3,rfl⟩:=e;simp only[aD]at he;have f:=h.gv h1;split at he
 .rename_i t g;simp only[aaM,abS]at he;obtain⟨rfl,rfl⟩:=he;rw[g]at f;have i:=f.nW;refine bt.val (c:=if t then a.eval x else a.eval y) (w':=w) (by simp[execOp,d,i,asBool]) (bZ.bN h.I ?_);cases t;·exact h.gv h3
  exact h.gv h2
 cases he
theorem Qb(h:cO P b ρ H w nt aa a){e:TypeId}(f:o.op=.alloc e)(g:bG P nt o=some ao)(he:aD ao aa H=some (v,H')):bt P b ρ w (execOp a.eval o) v H':=by
 simp only[bG,f,acC,aaU,aeO,aaM]at g;obtain⟨z,h1,rfl⟩:=g;simp only[aD,aaM,abS]at he;obtain⟨rfl,rfl⟩:=he;obtain⟨zv,i,c,d⟩:=qj h1;obtain⟨j,k,l⟩:=vl h.I (VR.cells (c ρ) d) e z.cells.length rfl [];refine bt.val (c:=.pointer (some ⟨w.heap.size,0,none⟩)) (w':={w with heap:=w.heap.push (.cells (zv.cells.toList++[]).toArray e (0,0))}) ?_ ⟨_,j,?_,k,l⟩;·simp[execOp,f,Instr.alloc,i,newVar,newRow]
 simp only[VR];exact⟨_,_,aO.dU ..,aF⟩
theorem Qc(h:cO P b ρ H w nt aa a){e:TypeId}{x:Operand}(d:o.op=.box e x)(f:bG P nt o=some ao)(he:aD ao aa H=some (v,H')):bt P b ρ w (execOp a.eval o) v H':=by
 simp only[bG,d,acC,aaU,aeO,aaM]at f;obtain⟨k,h1,rfl⟩:=f;simp only[aD]at he;split at he
 .rename_i c;simp only[aaM,abS]at he;obtain⟨rfl,rfl⟩:=he;obtain⟨g,i,j⟩:=vl h.I (VR.cells (h.gv h1) (Jy c)) e _ rfl [];refine bt.val (c:=.pointer (some ⟨w.heap.size,0,none⟩)) (w':={w with heap:=w.heap.push (.cells ((a.eval x).cells.toList++[]).toArray e (0,0))}) ?_ ⟨_,g,?_,i,j⟩;·simp[execOp,d,Instr.box,newVar,newRow]
  simp only[VR];exact⟨_,_,aO.dU ..,aF⟩
 cases he
theorem JA(D:bj P b ρ H w){z:AV}{c:Value}(E:VR ρ z c){t:TypeId}{n:Nat}{g:Bool}(hg:lL P t=some g)(A:g=true->dZ P t=some n)(p:g=false->n=1)(he:gF H z n g=some v):∃O,c=.pointer (some O)/\∃r,(loadVar t O).run P w=.ok r w/\VR ρ v r:=by
 unfold gF at he;split at he
 .rename_i id off;obtain⟨O,x,hb,rfl⟩:=E.li;refine⟨_,rfl,?_⟩;simp only[dK]at he;split at he
  .rename_i l hl;split at hl
   .rename_i c m e J aM fz hi;have s:H.get id≠.none:=by rw[hi];simp
    obtain⟨L,M,F,j,h,i,d⟩:=D.bm s;rw[hb]at j;injection j with j;injection j with G I;subst G;subst I;rw[hi]at d;cases F with
    |cells cs N fr=>
     obtain⟨f,B⟩:=Bx d hl;cases g with
     |true=>
      simp only[bf,aaM]at he;subst he;rcases agX n with k|k
      .subst k;refine⟨.agg #[],?_,?_⟩;·simp[loadVar,zB hg,gU (A rfl),loadCells,loadCellsFrom]
       simp only[VR];simpa using f
      refine⟨.agg ((cs.toList.drop (x+off)).take n).toArray,?_,by simp only[VR];simpa using f⟩;simp only[loadVar,Sem.run_bind,zB hg,Result.andThen_ok,bf,gU (A rfl),zu w i (x+off) n (B k),Sem.run_pure]
     |false=>
      have:=p rfl;subst this;simp only[abe,bD]at he;have K:=B ab;obtain⟨y,C⟩:∃y,cs[x+off]?=some y:=⟨cs[x+off],aF⟩;have u:(cs.toList.drop (x+off)).take 1=[y]:=by
       have h:x+off<cs.toList.length:=by simp;omega
       rw[afv h];simp only[agN,agI];have:cs.toList[x+off]=y:=by simpa[Array.getElem?_eq_getElem (show x+off<cs.size by omega)]using C
       rw[this]
      rw[u]at f;cases l with|nil=>simp[aQ]at f|cons q l=>simp only[aQ]at f;simp only[List.head?_cons,aaM]at he;subst he;refine⟨y,?_,f.1⟩;simp only[loadVar,Sem.run_bind,zB hg,Result.andThen_ok,abe,bD];exact P5 w (by rw[Fv w i];exact C)
    |_=>simp[OR]at d
   cases hl
  cases he
 cases he
theorem Qd(h:cO P b ρ H w nt aa a){t:TypeId}{x:Operand}(f:o.op=.load t x)(c:bG P nt o=some ao)(he:aD ao aa H=some (v,H')):bt P b ρ w (execOp a.eval o) v H':=by
 simp only[bG,f,acC,aaU,aeO,aaM]at c;obtain⟨g,hg,c⟩:=c;have key:∃d n,eC P nt x=some d/\(g=true->dZ P t=some n)/\(g=false->n=1)/\∃q,gF H (gv aa d) n g=some q/\v=q/\H'=H:=by cases g with|true=>simp only[bf,aaU,aaM]at c;obtain⟨n,i,d,h1,rfl⟩:=c;simp only[aD,adN,abS]at he;obtain⟨q,e,rfl,rfl⟩:=he;exact⟨d,n,h1,λ_=>i,aF,_,e,rfl,rfl⟩|false=>simp only[abe,bD,aaU,aaM]at c;obtain⟨d,h1,rfl⟩:=c;simp only[aD,adN,abS]at he;obtain⟨q,e,rfl,rfl⟩:=he;exact⟨d,1,h1,aF,λ_=>rfl,_,e,rfl,rfl⟩
 obtain⟨d,n,h1,h2,h3,q,e,rfl,rfl⟩:=key;obtain⟨l,hb,r,j,k⟩:=JA h.I (h.gv h1) hg h2 h3 e;exact bt.val (c:=r) (w':=w) (by simp[execOp,f,hb,Instr.loadAt,Instr.sureAddr,j]) (bZ.bN h.I k)
theorem Qe{id:af}{off:Nat}{l:List AV}(h:fS H id off l=some H'):cL l=true:=by
 unfold fS at h;split at h
 .split at h;·rename_i c;simp only[ae9]at c;exact c.2
  cases h
 cases h
theorem Qf(h:cO P b ρ H w nt aa a){t:TypeId}{x y:Operand}(e:o.op=.store t x y)(f:bG P nt o=some ao)(he:aD ao aa H=some (v,H')):bt P b ρ w (execOp a.eval o) v H':=by
 simp only[bG,e,acC,aaU,aeO,aaM]at f;obtain⟨n,k,s,h1,u,h2,rfl⟩:=f;simp only[aD]at he;have g:=h.gv h1;split at he
 .rename_i id off l;rw[l]at g;split at he
  .rename_i j;split at he
   .rename_i A i;simp only[aaM,abS]at he;obtain⟨rfl,rfl⟩:=he;obtain⟨B,z,hb,m⟩:=g.li;have c:=VR.cells (h.gv h2) (Jy (Qe i));obtain⟨p,q,r⟩:=zx h.I i hb c;have d:(a.eval y).cells.size=n:=by have:=aQ.length c;simp at this;omega
    refine⟨undef,_,.inr ⟨?_,rfl⟩,⟨ρ,bQ.refl ρ,VR.ahp ρ,q,r⟩⟩;simp[execOp,e,m,Instr.storeAt,Instr.sureAddr,storeVar,gU k,d,p]
   cases he
  cases he
 cases he
end
end
section
variable{P:Program}{d:bS}{ρ:aO}{H H':ah}{w:World}{nt:Nat}{aa:ak AV}{a:Act}{o:Oper}{ao:bE}{v:AV}
theorem Qg(h:cO P d ρ H w nt aa a){x:Operand}(f:o.op=.nilCheck x)(g:bG P nt o=some ao)(he:aD ao aa H=some (v,H')):bt P d ρ w (execOp a.eval o) v H':=by
 simp only[bG,f,acC,aaU,aeO,aaM]at g;obtain⟨j,h1,rfl⟩:=g;simp only[aD]at he;have e:=h.gv h1;split at he<;>(try cases he)<;>rename_i i<;>rw[i]at e;·obtain⟨b,z,hb,c⟩:=e.li;exact bt.val (by simp[execOp,f,c]) (bZ.bN h.I (c▸e))
 .obtain⟨k,l,_,_,c⟩:=e.BA;exact bt.val (by simp[execOp,f,c]) (bZ.bN h.I (c▸e))
 .obtain⟨b,hb,c⟩:=e.BB;exact bt.val (by simp[execOp,f,c]) (bZ.bN h.I (c▸e))
 .obtain⟨y,_,c⟩:=e.vc;exact bt.val (by simp[execOp,f,c]) (bZ.bN h.I (c▸e))
 .obtain⟨b,hb,c⟩:=e.lO;exact bt.val (by simp[execOp,f,c]) (bZ.bN h.I (c▸e))
 obtain⟨ad,m,c,_⟩:=e.lN;exact bt.val (by simp[execOp,f,c]) (bZ.bN h.I (c▸e))
theorem pb(k:IntKind):ck (kc k)=k:=by cases k<;>rfl
theorem sX{j k:IntKind}(h:kc j=kc k):j=k:=by have:=congrArg ck h;simpa[pb]using this
theorem eT(a b:Int):fU a b=(a==b):=by
 cases a with
 |ofNat m=>cases b with|ofNat n=>show afw m n=_;rw[agp];simp;omega|negSucc n=>show false=_;symm;rw[beq_eq_false_iff_ne];intro e;cases e
 |negSucc m=>cases b with|ofNat n=>show false=_;symm;rw[beq_eq_false_iff_ne];intro e;cases e|negSucc n=>show afw m n=_;rw[agp];simp
theorem lP(a b:Int):jH a b=decide (a<b):=by
 cases a with
 |ofNat m=>cases b with|ofNat n=>show afR m n=_;rw[agp];simp[afR];omega|negSucc n=>show false=_;symm;simp only[decide_eq_false_iff_not,afm];omega
 |negSucc m=>cases b with|ofNat n=>show true=_;symm;simp only[decide_eq_true_eq,afm];omega|negSucc n=>show afR n m=_;rw[agp];simp[afR];omega
theorem zC(n:Int)(h1: -9223372036854775808<=n)(h2:n<9223372036854775808):IntKind.i64.wrap n=n:=by unfold IntKind.wrap IntKind.signed IntKind.bits;simp only[ahb,decide_eq_true_eq];have b:(2:Int)^64=18446744073709551616:=bo;have c:(2:Int)^(64 - 1)=9223372036854775808:=bo;rw[b,c];split<;>omega
theorem Qh(n:Int)(h1:0<=n)(h2:n<256):IntKind.u8.wrap n=n:=by unfold IntKind.wrap IntKind.signed IntKind.bits;simp only[Bool.false_and,abe,bD];have b:(2:Int)^8=256:=bo;rw[b];omega
theorem sY(k:IntKind)(n:Int):fG (kc k) n=k.wrap n:=by
 have b:kD (kc k) n=k.wrap n:=by rw[kD,pb]
 unfold fG;split
 .rename_i m e;split
  .rename_i f;have c:k=.i64:=by cases k<;>simp[kc]at e⊢
   subst c;have:m<9223372036854775808:=afT (Nat.lt_succ_self m) (afx f);exact(zC _ (by simp only[afm];omega) (by simp only[afm];omega)).symm
  rw[e]at b;exact b
 .rename_i m e;split
  .rename_i f;have c:k=.i64:=by cases k<;>simp[kc]at e⊢
   subst c;have:m<9223372036854775808:=afT (Nat.lt_succ_self m) (afx f);exact(zC _ ab ab).symm
  rw[e]at b;exact b
 .rename_i m e;split
  .rename_i f;have c:k=.u8:=by cases k<;>simp[kc]at e⊢
   subst c;have:m<256:=afT (Nat.lt_succ_self m) (afx f);exact(Qh _ (by simp only[afm];omega) (by simp only[afm];omega)).symm
  rw[e]at b;exact b
 exact b
theorem rh:∀(a b:List Nat),ir a b=(a==b)|[],[]=>rfl|[],_::_=>rfl|_::_,[]=>rfl|a::l,b::m=>by rw[ir,rh l m];rw[agp];simp
theorem Qi{op:BinOp}{k:IntKind}{x y:Int}{r:AV}(h:eR op (kc k) x y=some r)(b:op≠.shl/\op≠.shr)(t:TypeId)(w:World):∃c,(binOp op t (.int k x) (.int k y)).run P w=.ok c w/\VR ρ r c:=by
 cases op<;>simp only[eR]at h<;>(try cases h)<;>(try(exact absurd rfl b.1))<;>(try(exact absurd rfl b.2));·exact⟨.int k (k.wrap (x+y)),by simp[binOp,Op.intArith],by simp[VR,sY]⟩
 .exact⟨.int k (k.wrap (x - y)),by simp[binOp,Op.intArith],by simp[VR,sY]⟩
 .exact⟨.int k (k.wrap (x*y)),by simp[binOp,Op.intArith],by simp[VR,sY]⟩
 .split at h;·cases h
  rename_i e;injection h with h;subst h;exact⟨.int k (k.wrap (x.tdiv y)),by simp[binOp,Op.intDiv,e],by simp[VR,sY]⟩
 .split at h;·cases h
  rename_i e;injection h with h;subst h;exact⟨.int k (x.tmod y),by simp[binOp,Op.intDiv,e],by simp[VR]⟩
 .exact⟨.int k (k.wrap (agj k.bits x&&&agj k.bits y).toNat),by simp[binOp,Op.intBits],by simp only[VR,kD];simp[pb]⟩
 .exact⟨.int k (k.wrap (agj k.bits x|||agj k.bits y).toNat),by simp[binOp,Op.intBits],by simp only[VR,kD];simp[pb]⟩
 .exact⟨.int k (k.wrap (agj k.bits x^^^agj k.bits y).toNat),by simp[binOp,Op.intBits],by simp only[VR,kD];simp[pb]⟩
 .exact⟨.int k (k.wrap (agj k.bits x&&& ~~~agj k.bits y).toNat),by simp[binOp,Op.intBits],by simp only[VR,kD];simp[pb]⟩
 .exact⟨.bool (x==y),by simp[binOp,Op.intCmp],by simp[VR,eT]⟩
 .exact⟨.bool (x !=y),by simp[binOp,Op.intCmp],by simp[VR,eT,bne]⟩
 .exact⟨.bool (decide (x<y)),by simp[binOp,Op.intCmp],by simp[VR,lP]⟩
 .exact⟨.bool (decide (x<=y)),by simp[binOp,Op.intCmp],by simp only[VR,lP];rw[agp];simp⟩
 .exact⟨.bool (decide (y<x)),by simp[binOp,Op.intCmp],by simp[VR,lP]⟩
 exact⟨.bool (decide (y<=x)),by simp[binOp,Op.intCmp],by simp only[VR,lP];rw[agp];simp⟩
theorem FA(op:BinOp)(t:TypeId)(x y:Operand)(k b:IntKind)(m n:Int)(w:World):(eqGuard op t x y (.int k m) (.int b n)).run P w=.ok () w:=by unfold eqGuard;split<;>simp
theorem Qj(h:cO P d ρ H w nt aa a){op:BinOp}{t B:TypeId}{x y:Operand}{k:IntKind}(s:o.op=.binOp op t x y B)(hu:P.underlying t=some (.int k))(b:op≠.shl/\op≠.shr)(l:bG P nt o=some ao)(he:aD ao aa H=some (v,H')):bt P d ρ w (execOp a.eval o) v H':=by
 have r:∃f g,eC P nt x=some f/\eC P nt y=some g/\ao=.arith op (kc k) f g:=by simp only[bG,s,eY,hu,acC,agH]at l;cases op<;>simp only[aaU,aeO,aaM]at l<;>first|(exact absurd rfl b.1)|(exact absurd rfl b.2)|(obtain⟨f,h1,g,h2,h3⟩:=l;exact⟨f,g,h1,h2,h3.symm⟩)
 obtain⟨f,g,h1,h2,rfl⟩:=r;simp only[aD,adN,abS]at he;obtain⟨q,e,rfl,rfl⟩:=he;have u:=h.gv h1;have z:=h.gv h2;unfold sN at e;split at e
 .rename_i i m j n C D;split at e;·rename_i p;simp only[ae9]at p;have L:i=kc k:=afo p.1;have M:j=kc k:=afo p.2;rw[C]at u;rw[D]at z;obtain⟨A,N,E⟩:=u.ie;obtain⟨F,O,G⟩:=z.ie;have:A=k:=sX ab;subst this;have:F=A:=sX ab;subst this;obtain⟨c,J,K⟩:=Qi (P:=P) (ρ:=ρ) e b t w;exact bt.val (c:=c) (w':=w) (by simp[execOp,s,E,G,FA,J]) (bZ.bN h.I K)
  cases e
 cases e
theorem Qk(h:cO P d ρ H w nt aa a){op:BinOp}{t C:TypeId}{x y:Operand}{k:IntKind}(l:o.op=.binOp op t x y C)(hu:P.underlying t=some (.int k))(g:op=.shl\/op=.shr)(s:bG P nt o=some ao)(he:aD ao aa H=some (v,H')):bt P d ρ w (execOp a.eval o) v H':=by
 have p:∃c e,eC P nt x=some c/\eC P nt y=some e/\ao=.shift op c e:=by rcases g with rfl|rfl<;>simp only[bG,l,eY,hu,acC,agH,aaU,aeO,aaM]at s<;>(obtain⟨c,h1,e,h2,h3⟩:=s;exact⟨c,e,h1,h2,h3.symm⟩)
 obtain⟨c,e,h1,h2,rfl⟩:=p;simp only[aD,adN,abS]at he;obtain⟨q,b,rfl,rfl⟩:=he;have u:=h.gv h1;have z:=h.gv h2;unfold Bg at b;split at b
 .rename_i i m j n D E;rw[D]at u;rw[E]at z;obtain⟨f,r,A⟩:=u.ie;obtain⟨G,F,B⟩:=z.ie;subst r;rcases g with rfl|rfl;·simp only[aaM]at b;subst b;refine bt.val (c:=.int f (f.wrap (m*2^(min n f.bits)))) (w':=w) ?_ (bZ.bN h.I (by simp[VR,sY,pb]));simp[execOp,l,A,B,FA,binOp,Op.shift];omega
  simp only[aaM]at b;subst b;refine bt.val (c:=.int f (m.fdiv (2^(min n f.bits)))) (w':=w) ?_ (bZ.bN h.I (by simp[VR,pb]));simp[execOp,l,A,B,FA,binOp,Op.shift];omega
 cases b
end
section
variable{P:Program}{b:bS}{ρ:aO}{H H':ah}{w:World}{nt:Nat}{aa:ak AV}{a:Act}{o:Oper}{ao:bE}{v:AV}
theorem JB{x y:UInt8}(h:x.toNat=y.toNat):x=y:=UInt8.toNat_inj.1 h
theorem FB:∀{l m:List UInt8},l.map agW=m.map agW->l=m|[],[],_=>rfl|[],_::_,h=>by simp at h|_::_,[],h=>by simp at h|a::l,c::m,h=>by simp only[afp,afM]at h;rw[JB h.1,FB h.2]
theorem JC(s t:ByteArray):(s.toList==t.toList)=ir (s.data.toList.map agW) (t.data.toList.map agW):=by rw[ByteArray.toList_eq,ByteArray.toList_eq,rh,agp];simp only[beq_iff_eq];exact⟨λh=>by rw[h],FB⟩
theorem JD:∀(l m:List UInt8),Op.bytesLess l m=nM (l.map agW) (m.map agW)
 |[],[]=>rfl
 |_::_,[]=>rfl
 |[],_::_=>rfl
 |a::l,e::m=>by
  simp only[Op.bytesLess,afp,nM,JD l m];have c:decide (a<e)=afR a.toNat e.toNat:=by rw[agp];simp[afR,UInt8.lt_iff_toNat_lt];omega
  have d:(a==e)=afw a.toNat e.toNat:=by rw[agp];simp only[beq_iff_eq,Nat.beq_eq];exact⟨λh=>by rw[h],JB⟩
  rw[c,d]
theorem FC:∀(l m:List Nat),(nM l m||ir l m)=!nM m l
 |[],[]=>rfl
 |_::_,[]=>rfl
 |[],_::_=>rfl
 |a::l,f::m=>by
  simp only[nM,ir];have:=FC l m;rcases Nat.lt_trichotomy a f with h|h|h
  .have c:afR a f=true:=by simp[afR];omega
   have e:afR f a=false:=by rw[Bool.eq_false_iff];simp[afR];omega
   have d:afw f a=false:=by rw[Bool.eq_false_iff];simp;omega
   simp[c,e,d]
  .subst h;have c:afR a a=false:=by rw[Bool.eq_false_iff];simp[afR]
   have d:afw a a=true:=aF;simp[c,d,this]
  have c:afR a f=false:=by rw[Bool.eq_false_iff];simp[afR];omega
  have e:afR f a=true:=by simp[afR];omega
  have d:afw a f=false:=by rw[Bool.eq_false_iff];simp;omega
  simp[c,e,d]
theorem Ql(s t:ByteArray):(s++t).data.toList=s.data.toList++t.data.toList:=by have:(s++t).data=s.data++t.data:=ByteArray.data_append;rw[this];simp
theorem Qm(op:BinOp)(t:TypeId)(x y:Operand)(m n:ByteArray)(w:World):(eqGuard op t x y (.string m) (.string n)).run P w=.ok () w:=by unfold eqGuard;split<;>simp
theorem Qn(h:cO P b ρ H w nt aa a){op:BinOp}{t A:TypeId}{x y:Operand}(p:o.op=.binOp op t x y A)(hu:P.underlying t=some .string)(r:bG P nt o=some ao)(he:aD ao aa H=some (v,H')):bt P b ρ w (execOp a.eval o) v H':=by
 have n:∃g i,eC P nt x=some g/\eC P nt y=some i/\ao=.lE op g i:=by cases op<;>simp only[bG,p,eY,hu,acC,agH,aaU,aeO,aaM]at r<;>(obtain⟨g,h1,i,h2,h3⟩:=r;exact⟨g,i,h1,h2,h3.symm⟩)
 obtain⟨g,i,h1,h2,rfl⟩:=n;simp only[aD,adN,abS]at he;obtain⟨q,d,rfl,rfl⟩:=he;have u:=h.gv h1;have z:=h.gv h2;unfold ze at d;split at d
 .rename_i l m B C;rw[B]at u;rw[C]at z;obtain⟨s,hs,D⟩:=u.kJ;obtain⟨j,k,E⟩:=z.kJ;have e:Op.bytesLess s.toList j.toList=nM l m:=by rw[ByteArray.toList_eq,ByteArray.toList_eq,JD,hs,k]
  have f:(s.toList==j.toList)=ir l m:=by rw[JC,hs,k]
  have key:∃c,(Op.stringOp op s j).run P w=.ok c w/\VR ρ q c:=by
   have J:s.size=l.length:=by rw[<-hs,afJ,af7];rfl
   have K:j.size=m.length:=by rw[<-k,afJ,af7];rfl
   cases op<;>simp only at d<;>(try cases d)
   .split at d
    .rename_i hb;injection d with d;subst d;refine⟨.string (s++j),?_,?_⟩
     .simp only[Op.stringOp];rw[ap];·rfl
      have:IntKind.i64.max=9223372036854775807:=bo;rw[this];omega
     simp only[VR];rw[Ql,afS,hs,k]
    cases d
   .exact⟨_,rfl,by simp only[VR];exact f.symm⟩
   .exact⟨_,rfl,by simp only[VR];rw[f]⟩
   .exact⟨_,rfl,by simp only[VR];exact e.symm⟩
   .exact⟨_,rfl,by simp only[VR];rw[e,f,FC]⟩
   .exact⟨_,rfl,by simp only[VR];rw[e,f,FC];simp⟩
   exact⟨_,rfl,by simp only[VR];rw[e]⟩
  obtain⟨c,F,G⟩:=key;exact bt.val (c:=c) (w':=w) (by simp[execOp,p,D,E,Qm,binOp,F]) (bZ.bN h.I G)
 cases d
theorem Qo(h:cO P b ρ H w nt aa a){op:UnOp}{t:TypeId}{x:Operand}(i:o.op=.unOp op t x)(l:bG P nt o=some ao)(he:aD ao aa H=some (v,H')):bt P b ρ w (execOp a.eval o) v H':=by
 simp only[bG,i,acC,aaU,aeO,aaM]at l;obtain⟨m,h1,rfl⟩:=l;simp only[aD,adN,abS]at he;obtain⟨q,c,rfl,rfl⟩:=he;have e:=h.gv h1;unfold uK at c;split at c;·rename_i k n f;rw[f]at e;obtain⟨d,j,g⟩:=e.ie;subst j;injection c with c;subst c;exact bt.val (c:=.int d (d.wrap (0 - n))) (w':=w) (by simp[execOp,i,g,Op.unary,Op.intArith]) (bZ.bN h.I (by simp[VR,sY]))
 .rename_i k n f;rw[f]at e;obtain⟨d,j,g⟩:=e.ie;subst j;simp only[eR,pb,aaM]at c;subst c;refine bt.val (c:=.int d (d.wrap (agj d.bits (if d.signed then -1 else d.max)^^^agj d.bits n).toNat)) (w':=w) (by simp[execOp,i,g,Op.unary,Op.intBits]) (bZ.bN h.I ?_);simp only[VR,kD];simp[pb]
 .rename_i p f;rw[f]at e;have g:=e.nW;injection c with c;subst c;exact bt.val (c:=.bool (!p)) (w':=w) (by simp[execOp,i,g,Op.unary]) (bZ.bN h.I (by simp[VR]))
 cases c
theorem Qp(h:cO P b ρ H w nt aa a){t:TypeId}{x:Operand}(i:o.op=.makeInterface t x)(c:bG P nt o=some ao)(he:aD ao aa H=some (v,H')):bt P b ρ w (execOp a.eval o) v H':=by
 simp only[bG,i,acC,aaU]at c;obtain⟨d,hd,c⟩:=c;have key:(∀m,d≠.interface m)/\∃f,eC P nt x=some f/\ao=.pP t f:=by cases d<;>simp only[bf,abe,bD,aaU,aeO,aaM]at c<;>first|(cases c;done)|(obtain⟨f,h1,h2⟩:=c;exact⟨(λm e=>by cases e),f,h1,h2.symm⟩)
 obtain⟨g,f,h1,rfl⟩:=key;simp only[aD,aaM,abS]at he;obtain⟨rfl,rfl⟩:=he;refine bt.val (c:=.iface t (a.eval x)) (w':=w) ?_ (bZ.bN h.I (by simp only[VR];exact⟨trivial,h.gv h1⟩));simp only[execOp,i,Instr.makeInterface,Sem.run_bind,bJ hd,Result.andThen_ok];cases d<;>first|(exact absurd rfl (g _))|rfl
theorem Qq(h:cO P b ρ H w nt aa a){f:FuncId}{x y:Array Operand}(c:o.op=.makeFunc (.func f) x y)(d:bG P nt o=some ao)(he:aD ao aa H=some (v,H')):bt P b ρ w (execOp a.eval o) v H':=by simp only[bG,c,rf,acC,aaU,aeO,aaM]at d;obtain⟨l,h1,m,h2,rfl⟩:=d;simp only[aD,aaM,abS]at he;obtain⟨rfl,rfl⟩:=he;refine bt.val (c:=.func (.func f) (x.map a.eval) (y.map a.eval)) (w':=w) (by simp[execOp,c,Instr.makeFunc]) (bZ.bN h.I ?_);simp only[VR,Array.toList_map];exact⟨trivial,vj h.E h.I h1,vj h.E h.I h2⟩
theorem Qr(h:cO P b ρ H w nt aa a){t:TypeId}(c:o.op=.makeMap t none)(d:bG P nt o=some ao)(he:aD ao aa H=some (v,H')):bt P b ρ w (execOp a.eval o) v H':=by simp only[bG,c,aeO,aaM]at d;subst d;simp only[aD,aaM,abS]at he;obtain⟨rfl,rfl⟩:=he;obtain⟨e,f,g⟩:=h.I.alloc (o:=.map [] 0) (ob:=.map #[] 0) (0,0) (by simp[dI]) aF rfl (by simp[OR,bh,ic.empty]);exact bt.val (c:=.map (some w.heap.size)) (w':={w with heap:=w.heap.push (.map #[] 0)}) (by simp[execOp,c,Instr.makeMap]) ⟨_,e,by simp only[VR];exact aO.dU ..,f,g⟩
theorem ri{l:List AV}{cs:Array Value}(hl:aQ ρ l cs.toList){t:TypeId}{g:Bool}{off s:Nat}(hg:lL P t=some g)(hs:dZ P t=some s){q:AV}(d:mM g l off s=some q):∃c,(part t cs off).run P w=.ok c w/\VR ρ q c:=by
 unfold mM at d;cases g with
 |true=>
  simp only[bf,aaM]at d;subst d;refine⟨.agg (cs.extract off (off+s)),by simp[part,zB hg,gU hs],?_⟩;simp only[VR];have:(cs.extract off (off+s)).toList=(cs.toList.drop off).take s:=by rw[Array.toList_extract,List.extract_eq_drop_take];simp
  rw[this];exact aQ.take s (aQ.drop off hl)
 |false=>simp only[abe,bD,List.head?_drop]at d;obtain⟨c,h1,h2⟩:=aQ.get hl off q d;exact⟨c,by simp at h1;simp[part,zB hg,h1],h2⟩
theorem Qs(h:cO P b ρ H w nt aa a){t:TypeId}{x:Operand}{i:Nat}(m:o.op=.field t x i)(e:bG P nt o=some ao)(he:aD ao aa H=some (v,H')):bt P b ρ w (execOp a.eval o) v H':=by
 simp only[bG,m,acC,aaU]at e;obtain⟨d,hd,e⟩:=e;split at e
 .rename_i A;simp only[aaU,aeO,aaM]at e;obtain⟨f,p,g,hg,s,hs,B,h1,rfl⟩:=e;simp only[aD]at he;have n:=h.gv h1;split at he;·rename_i l r;simp only[adN,abS]at he;obtain⟨q,u,rfl,rfl⟩:=he;rw[r]at n;obtain⟨cs,j,y⟩:=n.pa;obtain⟨c,z,k⟩:=ri (P:=P) (w:=w) j hg hs u;exact bt.val (c:=c) (w':=w) (by simp[execOp,m,Instr.field,bJ hd,p,y,asAgg,z]) (bZ.bN h.I k)
  cases he
 cases e
theorem Qt(h:cO P b ρ H w nt aa a){t:TypeId}{x:Operand}{i:Nat}(g:o.op=.fieldAddr t x i)(c:bG P nt o=some ao)(he:aD ao aa H=some (v,H')):bt P b ρ w (execOp a.eval o) v H':=by
 simp only[bG,g,acC,aaU]at c;obtain⟨d,hd,c⟩:=c;split at c
 .rename_i n;simp only[aaU]at c;obtain⟨f,k,s,hs,c⟩:=c;split at c;·cases c
  rename_i e;simp only[aaU,aeO,aaM]at c;obtain⟨p,h1,rfl⟩:=c;simp only[aD]at he;have j:=h.gv h1;split at he;·rename_i id off l;simp only[aaM,abS]at he;obtain⟨rfl,rfl⟩:=he;rw[l]at j;obtain⟨q,z,hb,m⟩:=j.li;refine bt.val (c:=.pointer (some ⟨q,z+off+f.offset,none⟩)) (w':=w) ?_ (bZ.bN h.I (by simp only[VR];exact⟨q,z,hb,by simp[agM]⟩));simp[execOp,g,Instr.fieldAt,bJ hd,k,m,Instr.sureAddr,fieldPlace,gU hs,e,qf]
  cases he
 cases c
theorem Qu(h:cO P b ρ H w nt aa a){x:Operand}{i:Nat}(f:o.op=.extract x i)(g:bG P nt o=some ao)(he:aD ao aa H=some (v,H')):bt P b ρ w (execOp a.eval o) v H':=by
 simp only[bG,f,acC,aaU,aeO,aaM]at g;obtain⟨t,h1,rfl⟩:=g;simp only[aD]at he;have j:=h.gv h1;split at he
 .rename_i l n;simp only[adN,abS]at he;obtain⟨q,k,rfl,rfl⟩:=he;rw[n]at j;obtain⟨cs,d,p⟩:=j.P7;have e:∀(l:List AV)(i:Nat),kZ l i=l[i]?:=by intro l;induction l with|nil=>intro i;simp[kZ]|cons y l r=>intro i;cases i with|zero=>simp[kZ]|succ i=>simp[kZ,r]
  rw[e]at k;obtain⟨c,m,s⟩:=aQ.get d i q k;exact bt.val (c:=c) (w':=w) (by simp at m;simp[execOp,f,p,Instr.extract,m]) (bZ.bN h.I s)
 cases he
end
section
variable{P:Program}{b:bS}{ρ:aO}{H H':ah}{w:World}{nt:Nat}{aa:ak AV}{a:Act}{o:Oper}{ao:bE}{v:AV}
theorem Qv(h:cO P b ρ H w nt aa a){t:TypeId}{x i:Operand}(p:o.op=.indexAddr t x i)(c:bG P nt o=some ao)(he:aD ao aa H=some (v,H')):bt P b ρ w (execOp a.eval o) v H':=by
 simp only[bG,p,acC,aaU]at c;obtain⟨d,hd,c⟩:=c;split at c
 .rename_i n e;simp only[aaU,aeO,aaM]at c;obtain⟨s,hs,u,h1,y,h2,rfl⟩:=c;simp only[aD]at he;have g:=h.gv h1;have l:=h.gv h2;split at he
  .rename_i id off k j q hj;split at he
   .rename_i f;simp only[aaM,abS]at he;obtain⟨rfl,rfl⟩:=he;rw[q]at g;rw[hj]at l;obtain⟨J,z,hb,r⟩:=g.li;obtain⟨A,_,hi⟩:=l.ie;have m:j<n:=by simpa[afR,Nat.succ_le_iff]using f
    refine bt.val (c:=.pointer (some ⟨J,z+off+j*s,none⟩)) (w':=w) ?_ (bZ.bN h.I (by simp only[VR];exact⟨J,z,hb,by simp[agM]⟩));simp[execOp,p,Instr.indexAt,hi,asIntOf,bJ hd,r,Instr.sureAddr,gU hs,qf];omega
   cases he
  cases he
 .rename_i e;simp only[aaU,aeO,aaM]at c;obtain⟨s,hs,u,h1,y,h2,rfl⟩:=c;simp only[aD]at he;have g:=h.gv h1;have l:=h.gv h2;split at he
  .rename_i id off len cap ex k j q hj;split at he
   .rename_i f;simp only[aaM,abS]at he;obtain⟨rfl,rfl⟩:=he;rw[q]at g;rw[hj]at l;obtain⟨ad,C,r,D,E,F,J,z,hb,B,G⟩:=g.lN;obtain⟨A,_,hi⟩:=l.ie;have m:j<len:=by simpa[afR,Nat.succ_le_iff]using f
    have:=B ab;subst this;refine bt.val (c:=.pointer (some ⟨J,z+off+j*s,none⟩)) (w':=w) ?_ (bZ.bN h.I (by simp only[VR];exact⟨J,z,hb,by simp[agM]⟩));simp[execOp,p,Instr.indexAt,hi,asIntOf,bJ hd,r,gU hs,qf];omega
   cases he
  cases he
 cases c
theorem JE:∀(l:List Nat)(i:Nat),sO l i=l[i]?|[],i=>by simp[sO]|a::l,0=>by simp[sO]|a::l,i+1=>by simp[sO,JE l i]
theorem Qw(h:cO P b ρ H w nt aa a){t:TypeId}{x i:Operand}(z:o.op=.index t x i)(f:bG P nt o=some ao)(he:aD ao aa H=some (v,H')):bt P b ρ w (execOp a.eval o) v H':=by
 simp only[bG,z,acC,aaU]at f;obtain⟨d,hd,f⟩:=f;split at f
 .rename_i n e;simp only[aaU,aeO,aaM]at f;obtain⟨g,hg,s,hs,K,h1,L,h2,rfl⟩:=f;simp only[aD]at he;have m:=h.gv h1;have p:=h.gv h2;split at he
  .rename_i l k j A hj;split at he
   .rename_i D;simp only[adN,abS]at he;obtain⟨q,M,rfl,rfl⟩:=he;rw[A]at m;rw[hj]at p;obtain⟨cs,E,B⟩:=m.pa;obtain⟨N,_,hi⟩:=p.ie;have r:j<n:=by simpa[afR,Nat.succ_le_iff]using D
    obtain⟨c,O,F⟩:=ri (P:=P) (w:=w) E hg hs M;refine bt.val (c:=c) (w':=w) ?_ (bZ.bN h.I F);simp[execOp,z,Instr.index,hi,asIntOf,bJ hd,B,gU hs,r,O]
   cases he
  cases he
 .simp only[aaU,aeO,aaM]at f;obtain⟨K,h1,L,h2,rfl⟩:=f;simp only[aD]at he;have m:=h.gv h1;have p:=h.gv h2;split at he
  .rename_i s k j A hj;simp only[adN,abS]at he;obtain⟨q,⟨n,y,rfl⟩,rfl,rfl⟩:=he;rw[A]at m;rw[hj]at p;obtain⟨C,Q,B⟩:=m.kJ;obtain⟨N,_,hi⟩:=p.ie;rw[JE,<-Q,af0,adN]at y;obtain⟨u,hu,y⟩:=y;have G:C[j]?=some u:=by
    have:j<C.size:=by have:=af3.1 hu;obtain⟨J,_⟩:=this;simpa using J
    rw[getElem?_pos C j this];have e:=af3.1 hu;obtain⟨J,R⟩:=e;rw[<-R];rfl
   refine bt.val (c:=.int .u8 u.toNat) (w':=w) ?_ (bZ.bN h.I (by simp[VR,kc,<-y]));simp[execOp,z,Instr.index,hi,asIntOf,bJ hd,B,G]
  cases he
 cases f
theorem BC{x:AV}{c:Value}(g:VR ρ x c){y f n:Nat}(h:l9 x y=some n)(j:y<=f)(code:Go.BoundsCode)(w:World):(Instr.sliceBound c f code).run P w=.ok n w/\n<=y:=by
 unfold l9 at h;split at h
 .rename_i k i;split at h;·rename_i e;injection h with h;subst h;obtain⟨l,_,rfl⟩:=g.ie;have d:i<=y:=afx e;refine⟨?_,d⟩;simp[Instr.sliceBound,asIntOf];omega
  cases h
 cases h
theorem Qx{d:Type}(c:Prop) [Decidable c](x y:d):(if c then some x else some y)=some (if c then x else y):=by split<;>rfl
theorem BD(h:cO P b ρ H w nt aa a){lo hi mx:Option Operand}{t u omx:Option aL}(h1:kH P nt lo=some t)(h2:kH P nt hi=some u)(h3:kH P nt mx=some omx){len cap cap' m d l:Nat}(r:gS aa omx cap cap=some m)(n:gS aa u len m=some d)(s:gS aa t 0 d=some l)(i:cap<=cap')(D:mx.isSome=true->hi.isSome=true)(A:mx=none->hi=none->len<=cap)(c:Bool):(Instr.sliceBounds c len cap' (lo.map a.eval) (hi.map a.eval) (mx.map a.eval)).run P w=.ok (l,d,if mx.isSome then m else cap') w/\l<=d/\(d<=m)/\m<=cap/\(mx=none->m=cap):=by
 have E:∀{x:Option Operand}{F:Option aL},kH P nt x=some F->(x=none/\F=none)\/∃y e,x=some y/\F=some e/\VR ρ (gv aa e) (a.eval y):=by intro x F G;cases x with|none=>simp only[kH,aaM]at G;exact .inl ⟨rfl,G.symm⟩|some y=>simp only[kH,adN]at G;obtain⟨e,K,rfl⟩:=G;exact .inr ⟨y,e,rfl,rfl,h.gv K⟩
 have L:∃p,(match mx.map a.eval with|some v=>Instr.sliceBound v cap' (if c then .slice3Acap else .slice3Alen)|none=>pure cap':Sem Nat).run P w=.ok p w/\(p=if mx.isSome then m else cap')/\m<=cap/\m<=p/\(mx=none->m=cap):=by
  rcases E h3 with⟨rfl,rfl⟩|⟨y,e,rfl,rfl,q⟩;·simp only[gS,aaM]at r;subst r;exact⟨cap',aF,aF,adv _,i,λ_=>rfl⟩
  simp only[gS]at r;obtain⟨f,g⟩:=BC (P:=P) q r i (if c then .slice3Acap else .slice3Alen) w;exact⟨m,by simpa using f,aF,g,adv _,aF⟩
 obtain⟨p,N,I,B,j,k⟩:=L;have J:∃code,d<=m/\((match hi.map a.eval,mx.map a.eval with|some v,some _=>Instr.sliceBound v p .slice3B|some v,none=>Instr.sliceBound v p code|none,none=>pure len|none,some _=>stuck "Slice: max without high" :Sem Nat).run P w=.ok d w)/\code=(if c then .sliceAcap else .sliceAlen):=by
  refine⟨if c then .sliceAcap else .sliceAlen,?_⟩;rcases E h2 with⟨rfl,rfl⟩|⟨y,e,rfl,rfl,q⟩;·simp only[gS,aaM]at n;subst n;cases mx with|none=>refine⟨?_,aF,rfl⟩;rw[k rfl];exact A rfl rfl|some y=>simp at D
  simp only[gS]at n;cases mx with|none=>obtain⟨f,g⟩:=BC (P:=P) q n j (if c then .sliceAcap else .sliceAlen) w;exact⟨g,by simpa using f,rfl⟩|some z=>obtain⟨f,g⟩:=BC (P:=P) q n j .slice3B w;exact⟨g,by simpa using f,rfl⟩
 obtain⟨code,M,O,rfl⟩:=J;have C:l<=d/\(match lo.map a.eval with|some v=>Instr.sliceBound v d (if mx.isSome then .slice3C else .sliceB)|none=>pure 0:Sem Nat).run P w=.ok l w:=by
  rcases E h1 with⟨rfl,rfl⟩|⟨y,e,rfl,rfl,q⟩;·simp only[gS,aaM]at s;subst s;exact⟨ab,aF⟩
  simp only[gS]at s;obtain⟨f,g⟩:=BC (P:=P) q s (adv _) (if mx.isSome then .slice3C else .sliceB) w;exact⟨g,by simpa using f⟩
 refine⟨?_,C.1,M,B,k⟩;rw[<-I];obtain⟨_,Q⟩:=C;clear h h1 h2 h3 r n s E B j k A i;cases mx<;>cases hi<;>cases lo<;>simp_all[Instr.sliceBounds]
theorem Qy(j:bj P b ρ H w){id:af}{u z e s:Nat}(hb:ρ id=some (u,z))(h:oT H id e=true)(hs:dZ P e=some s):(ρ.k u).2=s:=by
 unfold oT at h;split at h
 .rename_i c n q p aM fz hi;have he:=afo h;subst he;have f:H.get id≠.none:=by rw[hi];simp
  obtain⟨r,t,l,d,_,i,g⟩:=j.bm f;rw[hb]at d;injection d with d;injection d with d m;subst d;subst m;have:=j.iw id u z l f hb i;rw[hi]at this g;cases l<;>simp only[OR]at g;simp only[dI]at this;rw[this];simp[hs]
 cases h
theorem Qz(h:cO P b ρ H w nt aa a){t:TypeId}{x:Operand}{lo hi mx:Option Operand}(J:o.op=.slice t x lo hi mx)(c:bG P nt o=some ao)(he:aD ao aa H=some (v,H')):bt P b ρ w (execOp a.eval o) v H':=by
 simp only[bG,J,acC,aaU]at c;obtain⟨d,hd,c⟩:=c;split at c
 .rename_i n e;split at c;·cases c
  rename_i W;simp only[aaU,aeO,aaM]at c;obtain⟨s,hs,ox,h1,D,h2,M,h3,omx,u,rfl⟩:=c;simp only[aD]at he;have g:=h.gv h1;split at he
  .rename_i id off A;simp only[acC,aaU,aaM,abS]at he;obtain⟨m,K,i,B,l,j,rfl,rfl⟩:=he;rw[A]at g;obtain⟨ax,z,hb,C⟩:=g.li;obtain⟨k,S,T,V,L⟩:=BD h h2 h3 u K B j (adv n) (λh=>by cases hi<;>simp_all) (λ_ _=>adv _) false;have X:(if mx.isSome then m else n)=m:=by cases mx with|none=>simp[L rfl]|some y=>simp
   rw[X]at k;refine bt.val (c:=.slice (some (if m=l then⟨ax,z+off,none⟩else(⟨ax,z+off,none⟩:Addr).add (l*s))) (i - l) (m - l)) (w':=w) ?_ (bZ.bN h.I ?_);·simp only[execOp,J,Instr.sliceAt,Sem.run_bind,bJ hd,Result.andThen_ok,C,Instr.sureAddr,Sem.run_pure,k,gU hs]
   simp only[VR];refine⟨trivial,ab,adv _,λ_=>trivial,ax,z,hb,λp=>?_,λh=>by cases h⟩;rw[ap ab,ap ab,qf,agM]
  cases he
 .rename_i e;split at c;·cases c
  rename_i W;simp only[aaU]at c;obtain⟨s,hs,c⟩:=c;split at c;·cases c
  simp only[aaU,aeO,aaM]at c;obtain⟨ox,h1,D,h2,M,h3,omx,u,rfl⟩:=c;simp only[aD]at he;have g:=h.gv h1;have E:mx.isSome=true->hi.isSome=true:=λh=>by cases hi<;>simp_all
  split at he;·rename_i A;simp only[acC,aaU,aaM,abS]at he;obtain⟨m,K,i,B,l,j,rfl,rfl⟩:=he;rw[A]at g;have C:=g.kK;obtain⟨k,S,T,V,L⟩:=BD h h2 h3 u K B j (adv 0) E (λ_ _=>adv _) true;have Y:m=0:=ab;have Z:i=0:=ab;have ag:l=0:=ab;subst Y;subst Z;subst ag;refine bt.val (c:=.slice none 0 0) (w':=w) ?_ (bZ.bN h.I (by simp[VR]));simp only[execOp,J,Instr.sliceAt,Sem.run_bind,bJ hd,Result.andThen_ok,C,Instr.slice,k,gU hs];cases mx<;>simp
  .rename_i id off len cap ex A;simp only[acC,aaU,aaM,abS]at he;obtain⟨m,K,i,B,l,j,he⟩:=he;split at he;case isFalse=>cases he
   rename_i F;simp only[aaM,abS]at he;obtain⟨rfl,rfl⟩:=he;rw[A]at g;obtain⟨ad,Q,C,q1,q2,q3,ax,z,hb,q4,q5⟩:=g.lN;obtain⟨k,S,T,V,L⟩:=BD h h2 h3 u K B j q2 E (λ_ _=>q1) true;refine bt.val (c:=.slice (some (if(if mx.isSome then m else Q)=l then ad else ad.add (l*s))) (i - l) ((if mx.isSome then m else Q) - l)) (w':=w) ?_ (bZ.bN h.I ?_);·simp only[execOp,J,Instr.sliceAt,Sem.run_bind,bJ hd,Result.andThen_ok,C,Instr.slice,k,gU hs];simp only[afL];rw[Qx];simp
   simp only[VR];cases mx with
   |none=>
    have:=L rfl;subst this;simp only[kH,aaM]at u;subst u;refine⟨trivial,ab,by simp;omega,λf=>?_,ax,z,hb,λp=>?_,λf=>?_⟩;rotate_left 2
    .simp only[Option.isSome_none,Bool.or_false,abe,bD]at f F⊢;subst f;have h6:=q5 rfl;simp only[Bool.false_or,agd,Nat.beq_eq_true_eq,Bool.false_and,abe,bD]at F⊢;rcases F with h0|h0
     .have h0:l=0:=by cases N:D with|none=>rw[N]at j;simpa[gS]using j.symm|some q=>rw[N]at h0;simp at h0
      subst h0;simpa using h6
     have av:=Qy h.I hb h0 hs;rw[av]at h6⊢;have:l*s+(Q - l)*s=Q*s:=by rw[<-ag8];congr 1;omega
     omega
    .simp at f⊢;rw[q3 f]
    simp only[Option.isSome_none,abe,bD]at p⊢;have G:=q4 ab;subst G;rw[ap ab,ap (by intro r;simp only[ae9,decide_eq_true_eq]at r;have:=q3 r.1;omega),qf,agM]
   |some y=>simp only[kH,adN]at u;obtain⟨oy,_,rfl⟩:=u;refine⟨trivial,ab,aF,λ_=>by simp,ax,z,hb,λp=>?_,λh=>by simp at h⟩;simp only[Option.isSome_some,bf]at p⊢;have G:=q4 ab;subst G;rw[ap ab,ap (by intro r;simp only[ae9,decide_eq_true_eq]at r;omega),qf,agM]
  cases he
 .split at c;·cases c
  rename_i E;simp only[aaU,aeO,aaM]at c;obtain⟨ox,h1,D,h2,M,h3,rfl⟩:=c;have O:mx=none:=by cases mx<;>simp_all
  subst O;simp only[aD]at he;have g:=h.gv h1;split at he
  .rename_i s A;simp only[acC,aaU,aaM,abS]at he;obtain⟨i,B,l,j,rfl,rfl⟩:=he;rw[A]at g;obtain⟨R,ht,C⟩:=g.kJ;have aw:R.size=s.length:=by rw[<-ht,afJ,af7];rfl
   obtain⟨k,S,T,V,L⟩:=BD (mx:=none) (omx:=none) h h2 h3 rfl (m:=s.length) (cap:=s.length) (cap':=s.length) rfl B j (adv _) aF (λ_ _=>adv _) false;refine bt.val (c:=.string (R.extract l i)) (w':=w) ?_ (bZ.bN h.I ?_);·simp only[execOp,J,Instr.sliceAt,Sem.run_bind,bJ hd,Result.andThen_ok,C,Instr.slice,Option.map_none,Option.isSome_none,abe,bD];simp only[Option.map_none]at k;rw[aw];simp[k]
   simp only[VR];rw[show(R.extract l i).data.toList=(R.data.toList.drop l).take (i - l)by rw[ByteArray.data_extract,Array.toList_extract,List.extract_eq_drop_take]];rw[List.map_take,List.map_drop,ht]
  cases he
 cases c
end
section
variable{P:Program}{b:bS}{ρ:aO}{H H':ah}{w:World}{nt:Nat}{aa:ak AV}{a:Act}{o:Oper}{ao:bE}{v:AV}
theorem rj{c:Call}{f:Builtin}(e:o.op=.call c)(hb:c.callee=.builtin f)(w:World):∃d,(execOp a.eval o).run P w=(builtin f c.argTypes o.type d (c.args.map a.eval)).run P w:=by exact⟨_,by simp only[execOp,e,resolve,hb,Sem.run_bind,Sem.run_pure,Result.andThen_ok,invoke];rfl⟩
theorem JF{c:Call}{i:Nat}{x:aL}(h:(c.args[i]?).bind (eC P nt)=some x):∃y,c.args[i]?=some y/\eC P nt y=some x/\(c.args.map a.eval)[i]?=some (a.eval y):=by rw[aaU]at h;obtain⟨y,h1,h2⟩:=h;exact⟨y,h1,h2,by simp[h1]⟩
theorem VR.goInt(ρ:aO)(n:Nat):VR ρ (.int 3 (.ofNat n)) (goInt n):=by simp[VR,Go.goInt,kc]
theorem bh.length:∀{l:List aT}{m:List MapEntry},bh ρ l m->l.length=m.length|[],[],_=>rfl|_::_,_::_,h=>by simp only[bh]at h;simp[bh.length h.2.2.2]|[],_::_,h=>by simp[bh]at h|_::_,[],h=>by simp[bh]at h
theorem nX(i:bj P b ρ H w){id:af}{es:List aT}{c:Nat}(g:H.get id=.map es c){n:Nat}(hb:ρ id=some (n,0)):∃bk:Array MapEntry,w.heap[n]?=some (.map bk c)/\bh ρ es bk.toList:=by obtain⟨m,x,j,e,hl,f,d⟩:=i.bm (i:=id) (by rw[g];simp);rw[hb]at e;injection e with e;injection e with k l;subst k;subst l;rw[g]at d;cases j<;>simp only[OR]at d;obtain⟨_,rfl,_,h⟩:=d;exact⟨_,f,h⟩
theorem sZ(h:bj P b ρ H w){id:af}{es:List aT}{f:Nat}(g:H.get id=.map es f){p:Nat}(hb:ρ id=some (p,0)){bk:Array MapEntry}{k:Nat}(i:w.heap[p]?=some (.map bk k)):ic bk k:=by obtain⟨m,x,n,e,hl,c,d⟩:=h.bm (i:=id) (by rw[g];simp);rw[hb]at e;injection e with e;injection e with j l;subst j;subst l;rw[g,]at d;rw[i]at c;injection c with c;subst c;simp only[OR]at d;exact d.2.2.1
theorem bV.length:∀{l:List aT}{m:List MapEntry},bV ρ l m->l.length=m.length|[],[],_=>rfl|_::_,_::_,h=>by simp only[bV]at h;simp[bV.length h.2.2]|[],_::_,h=>by simp[bV]at h|_::_,[],h=>by simp[bV]at h
theorem QA(h:bj P b ρ H w){id:af}{es:List aT}(g:H.get id=.co es){n:Nat}(hb:ρ id=some (n,0)):∃(bk:Array MapEntry)(d:Nat)(l:List MapEntry),w.heap[n]?=some (.map bk d)/\l.Perm bk.toList/\bV ρ es l:=by obtain⟨m,x,i,e,hl,f,c⟩:=h.bm (i:=id) (by rw[g];simp);rw[hb]at e;injection e with e;injection e with j k;subst j;subst k;rw[g]at c;cases i<;>simp only[OR]at c;obtain⟨_,_,l,h1,h2⟩:=c;exact⟨_,_,l,f,h1,h2⟩
theorem lj{d:Nat}{bk:Array MapEntry}{c:Nat}(h:w.heap[d]?=some (.map bk c)):(getObj d).run P w=.ok (.map bk c) w:=by simp[getObj,Sem.run,h]
theorem QB(h:cO P b ρ H w nt aa a){c:Call}(E:o.op=.call c)(hb:c.callee=.builtin .len)(f:bG P nt o=some ao)(he:aD ao aa H=some (v,H')):bt P b ρ w (execOp a.eval o) v H':=by
 simp only[bG,E,hb,acC,aaU]at f;obtain⟨t,k,d,hd,f⟩:=f;obtain⟨r,g⟩:=rj (P:=P) (a:=a) E hb w;split at f;·rename_i n e;rw[aaU]at f;obtain⟨x,i,f⟩:=f;injection f with f;subst f;obtain⟨y,_,_,j⟩:=JF (a:=a) i;simp only[aD,aaM,abS]at he;obtain⟨rfl,rfl⟩:=he;refine bt.val (c:=goInt n) (w':=w) ?_ (bZ.bN h.I (VR.goInt ρ n));rw[g];simp[builtin,Builtin.len_,k,j,bJ hd]
 .rename_i e;rw[aaU]at f;obtain⟨L,A,f⟩:=f;split at f;·rename_i n M;rw[aaU]at f;obtain⟨x,i,f⟩:=f;injection f with f;subst f;obtain⟨y,_,_,j⟩:=JF (a:=a) i;simp only[aD,aaM,abS]at he;obtain⟨rfl,rfl⟩:=he;refine bt.val (c:=goInt n) (w':=w) ?_ (bZ.bN h.I (VR.goInt ρ n));rw[g];simp[builtin,Builtin.len_,k,j,bJ hd,bJ A]
  cases f
 all_goals(try(cases f;done))
 all_goals
  simp only[aaU,aeO,aaM]at f;obtain⟨x,⟨G,B,C⟩,rfl⟩:=f;have j:(c.args.map a.eval)[0]?=some (a.eval G):=by simp[B]
  have m:=h.gv C;simp only[aD]at he;split at he<;>(try(cases he;done))<;>rename_i J<;>rw[J]at m
 .simp only[aaM,abS]at he;obtain⟨rfl,rfl⟩:=he;obtain⟨F,D,i⟩:=m.kJ;refine bt.val (c:=goInt F.size) (w':=w) ?_ (bZ.bN h.I ?_);·rw[g];simp[builtin,Builtin.len_,k,j,bJ hd,i]
  rw[<-D,afJ,af7];exact VR.goInt ρ F.size
 .simp only[aaM,abS]at he;obtain⟨rfl,rfl⟩:=he;obtain⟨ad,N,i,_⟩:=m.lN;refine bt.val (c:=goInt _) (w':=w) ?_ (bZ.bN h.I (VR.goInt ρ _));rw[g];simp[builtin,Builtin.len_,k,j,bJ hd,i]
 .simp only[aaM,abS]at he;obtain⟨rfl,rfl⟩:=he;have i:=m.kK;refine bt.val (c:=goInt 0) (w':=w) ?_ (bZ.bN h.I (VR.goInt ρ 0));rw[g];simp[builtin,Builtin.len_,k,j,bJ hd,i]
 .simp only[aaM,abS]at he;obtain⟨rfl,rfl⟩:=he;have i:=m.qi;refine bt.val (c:=goInt 0) (w':=w) ?_ (bZ.bN h.I (VR.goInt ρ 0));rw[g];simp[builtin,Builtin.len_,k,j,bJ hd,i]
 split at he
 .rename_i es q s;simp only[aaM,abS]at he;obtain⟨rfl,rfl⟩:=he;obtain⟨O,p,i⟩:=m.lO;obtain⟨bk,u,z⟩:=nX h.I s p;refine bt.val (c:=goInt bk.size) (w':=w) ?_ (bZ.bN h.I ?_);·rw[g];simp[builtin,Builtin.len_,k,j,bJ hd,i,lj u]
  rw[bh.length z,af7];exact VR.goInt ρ bk.size
 .rename_i es s;simp only[aaM,abS]at he;obtain⟨rfl,rfl⟩:=he;obtain⟨O,p,i⟩:=m.lO;obtain⟨bk,q,l,u,z,K⟩:=QA h.I s p;refine bt.val (c:=goInt bk.size) (w':=w) ?_ (bZ.bN h.I ?_);·rw[g];simp[builtin,Builtin.len_,k,j,bJ hd,i,lj u]
  rw[bV.length K,z.length_eq,af7];exact VR.goInt ρ bk.size
 cases he
theorem QC(h:cO P b ρ H w nt aa a){c:Call}(m:o.op=.call c)(hb:c.callee=.builtin .cap)(e:bG P nt o=some ao)(he:aD ao aa H=some (v,H')):bt P b ρ w (execOp a.eval o) v H':=by
 simp only[bG,m,hb,acC,aaU]at e;obtain⟨t,n,d,hd,e⟩:=e;obtain⟨g,f⟩:=rj (P:=P) (a:=a) m hb w;split at e
 .simp only[aaU,aeO,aaM]at e;obtain⟨x,⟨q,k,l⟩,rfl⟩:=e;have p:(c.args.map a.eval)[0]?=some (a.eval q):=by simp[k]
  have i:=h.gv l;simp only[aD]at he;split at he<;>(try(cases he;done))<;>rename_i r<;>rw[r]at i;·simp only[aaM,abS]at he;obtain⟨rfl,rfl⟩:=he;obtain⟨ad,u,j,_,_,s,_⟩:=i.lN;have:=s rfl;subst this;refine bt.val (c:=goInt _) (w':=w) ?_ (bZ.bN h.I (VR.goInt ρ _));rw[f];simp[builtin,Builtin.cap_,n,p,bJ hd,j]
  simp only[aaM,abS]at he;obtain⟨rfl,rfl⟩:=he;have j:=i.kK;refine bt.val (c:=goInt 0) (w':=w) ?_ (bZ.bN h.I (VR.goInt ρ 0));rw[f];simp[builtin,Builtin.cap_,n,p,bJ hd,j]
 cases e
theorem JG(e:Bool):∀(l:List AV)(m:List Value)(x:AV)(c:Value)(r:AV),VR ρ x c->aQ ρ l m->uL e x l=some r->∃q,(m.foldlM (if e then Builtin.max2 else Builtin.min2) c).run P w=.ok q w/\VR ρ r q
 |[],[],x,c,r,t,_,h=>by simp only[uL,aaM]at h;subst h;exact⟨c,aF,t⟩
 |y::l,d::m,x,c,r,t,hl,h=>by
  simp only[aQ]at hl;unfold uL at h;split at h;·rename_i g;cases g
  .rename_i k n j f B g;split at h
   .rename_i C;injection g with D E;subst D;subst E;obtain⟨i,p,rfl⟩:=t.ie;obtain⟨F,I,rfl⟩:=hl.1.ie;have u:i=F:=sX (by have:=afo C;omega);subst u;have s:∃q,((if e then Builtin.max2 else Builtin.min2) (.int i n) (.int i f)).run P w=.ok q w/\VR ρ (.int k (if e then(if jH n f then f else n)else(if jH f n then f else n))) q:=by
     cases e;·refine⟨.int i (if f<n then f else n),by simp[Builtin.min2],?_⟩;simp[VR,p,lP]
     refine⟨.int i (if f>n then f else n),by simp[Builtin.max2],?_⟩;simp[VR,p,lP]
    obtain⟨q,z,A⟩:=s;obtain⟨G,h1,h2⟩:=JG e _ _ _ _ _ A hl.2 h;exact⟨G,by simp only[List.foldlM_cons,Sem.run_bind,z,Result.andThen_ok];exact h1,h2⟩
   cases h
  cases h
 |[],_::_,_,_,_,_,hl,_=>by simp[aQ]at hl
 |_::_,[],_,_,_,_,hl,_=>by simp[aQ]at hl
theorem JH(h:cO P b ρ H w nt aa a){c:Call}{isMax:Bool}(r:o.op=.call c)(hb:c.callee=.builtin (if isMax then .max else .min))(s:bG P nt o=some ao)(he:aD ao aa H=some (v,H')):bt P b ρ w (execOp a.eval o) v H':=by
 have n:∃l,c.args.toList.mapM (eC P nt)=some l/\ao=.nK isMax l:=by cases isMax<;>simp only[bf,bD,abe]at hb<;>simp only[bG,r,hb,rf,acC,aaU,aeO,aaM]at s<;>(obtain⟨l,h1,h2⟩:=s;exact⟨l,h1,h2.symm⟩)
 obtain⟨l,h1,rfl⟩:=n;obtain⟨k,p⟩:=rj (P:=P) (a:=a) r hb w;have g:=vj h.E h.I h1;simp only[aD]at he;split at he
 .rename_i x f hl;simp only[adN,abS]at he;obtain⟨q,t,rfl,rfl⟩:=he;rw[hl]at g;have e:(c.args.map a.eval).toList=c.args.toList.map a.eval:=aF;cases i:c.args.toList.map a.eval with
  |nil=>rw[i]at g;simp[aQ]at g
  |cons d m=>
   rw[i]at g;simp only[aQ]at g;obtain⟨u,j,y⟩:=JG (P:=P) (w:=w) isMax f m x d q g.1 g.2 t;refine bt.val (c:=u) (w':=w) ?_ (bZ.bN h.I y);rw[p];cases isMax;·simp only[abe,bD,builtin,Builtin.min_,e,i]at j⊢;simp[j]
   simp only[bf,builtin,Builtin.max_,e,i]at j⊢;simp[j]
 cases he
end
section
variable{P:Program}{b:bS}{ρ:aO}{H H':ah}{w:World}{nt:Nat}{aa:ak AV}{a:Act}{o:Oper}{ao:bE}{v:AV}
theorem zD(c:List AV):∀n,(eo c n).length=n*c.length|0=>by simp[eo]|n+1=>by simp[eo,zD c n,Nat.succ_mul];omega
theorem JI(c:List AV):∀(n i:Nat),i<n*c.length->(eo c n)[i]?=c[i % c.length]?
 |0,i,h=>by omega
 |n+1,i,h=>by
  simp only[eo];by_cases hi:i<c.length;·rw[afG hi,Nat.mod_eq_of_lt hi]
  rw[agl ab,JI c n _ (by rw[Nat.succ_mul]at h;omega)];congr 1;rw[<-Nat.mod_eq_sub_mod ab]
theorem BE{e:List AV}{cs:Array Value}(h:aQ ρ e cs.toList)(n:Nat)(hs:e.length≠0):aQ ρ (eo e n) ((ahl (n*cs.size)).map (cs[·% cs.size]!)).toList:=by
 have hl:=aQ.length h;simp only[af7]at hl;refine aQ.Ft (by simp[zD,hl]) ?_;intro i v c g j;have hi:i<n*e.length:=by
  rcases afZ i (n*e.length)with h|h;·exact h
  rw[agV (by rw[zD];exact h)]at g;cases g
 rw[JI e n i hi]at g;obtain⟨d,hd,k⟩:=aQ.get h _ v g;have f:i % cs.size<cs.size:=Nat.mod_lt _ ab;simp only[Array.toList_map,Array.toList_range,af0,List.getElem?_range (show i<n*cs.size by rw[<-hl];exact hi),afL,aaM]at j;rw[hl]at hd;simp only[aga]at hd;rw[getElem!_pos cs (i % cs.size) f]at j;rw[getElem?_pos cs (i % cs.size) f]at hd;injection hd with hd;rw[hd]at j;subst j;exact k
theorem JJ:∀(l:List Value)(cs:Array Value)(off j:Nat),(l.zipIdx j).foldl (λcs(p:Value×Nat)=>cs.setIfInBounds (off+p.2) p.1) cs=wr cs (off+j) l|[],cs,off,j=>rfl|v::l,cs,off,j=>by simp only[List.zipIdx_cons,List.foldl_cons,wr];rw[JJ l _ off (j+1)];rfl
theorem FD:∀(off:Nat)(l f g:List AV)(cs d:List Value),nN l off f=some g->aQ ρ l cs->aQ ρ f d->off+d.length<=cs.length/\aQ ρ g (cs.take off++d++cs.drop (off+d.length))
 |0,l,[],g,cs,[],h,hl,_=>by simp only[nN,aaM]at h;subst h;simpa using hl
 |0,x::l,v::f,g,c::cs,m::d,h,hl,e=>by
  simp only[nN]at h;split at h;·rename_i k i;injection h with h;subst h;simp only[aQ]at hl e;obtain⟨n,j⟩:=FD 0 l f k cs d i hl.2 e.2;refine⟨by simp at n⊢;omega,?_⟩;simp only[agI,agq,agb,aQ,afC,afB,ag4]at j⊢;exact⟨e.1,j⟩
  cases h
 |off+1,x::l,f,g,c::cs,d,h,hl,e=>by
  simp only[nN]at h;split at h;·rename_i k i;injection h with h;subst h;simp only[aQ]at hl;obtain⟨n,j⟩:=FD off l f k cs d i hl.2 e;refine⟨by simp;omega,?_⟩;rw[show off+1+d.length=(off+d.length)+1 by omega];simp only[agN,agb,aQ,ag4];exact⟨hl.1,by simpa using j⟩
  cases h
 |off+1,[],f,g,_,_,h,_,_=>by simp[nN]at h
 |0,[],v::f,g,_,_,h,_,_=>by simp[nN]at h
 |0,_,[],_,_,_::_,_,_,e=>by simp[aQ]at e
 |0,_,_::_,_,_,[],_,_,e=>by simp[aQ]at e
 |0,_::_,_,_,[],_,_,hl,_=>by simp[aQ]at hl
 |_+1,_::_,_,_,[],_,_,hl,_=>by simp[aQ]at hl
theorem QD(l:List Value)(cs:Array Value)(off:Nat)(h:off+l.length<=cs.size):(wr cs off l).toList=cs.toList.take off++l++cs.toList.drop (off+l.length):=by
 apply List.ext_getElem?;intro j;rw[aga,zw l cs off j h];by_cases h1:j<off;·rw[ap ab,afG (by simp;omega),afG (by simp;omega),List.getElem?_take,aJ h1];simp
 by_cases h2:j<off+l.length;·rw[aJ ab,afG (by simp;omega),agl (by simp;omega)];congr 1;simp;omega
 rw[ap ab,agl (by simp;omega),List.getElem?_drop];simp only[aga];congr 1;simp;omega
theorem BF(h:cO P b ρ H w nt aa a)(c:Nat->Option (Nat×Nat)):∀(dA:List (Nat×Operand))(l:List (Nat×Nat×aL))(g r:List AV)(cs:Array Value),dA.mapM (λp=>(c p.1).bind λq=>(eC P nt p.2).map λx=>(q.1,q.2,x))=some l->aQ ρ g cs.toList->kE aa g l=some r->∃d,Instr.fill c cs (dA.map λp=>(p.1,a.eval p.2))=some d/\aQ ρ r d.toList/\d.size=cs.size
 |[],l,g,r,cs,i,k,hl=>by simp at i;subst i;simp only[kE,aaM]at hl;subst hl;exact⟨cs,rfl,k,rfl⟩
 |p::dA,l,g,r,cs,i,k,hl=>by
  simp only[ag5,acC,aaU,aeO,aaM,adN]at i;obtain⟨t,⟨q,A,x,B,rfl⟩,C,m,rfl⟩:=i;simp only[kE]at hl;split at hl
  .rename_i e;simp only[ae9,decide_eq_true_eq]at e;obtain⟨n,e⟩:=e;split at hl
   .rename_i u s;have j:=VR.cells (h.gv B) n;have f:=aQ.length j;simp only[af7]at f;obtain⟨y,z⟩:=FD q.1 g (gv aa x).cells u cs.toList (a.eval p.2).cells.toList s k j;simp only[af7]at y;have D:=QD (a.eval p.2).cells.toList cs q.1 (by simpa using y);rw[<-D]at z;obtain⟨d,E,F,G⟩:=BF h c dA C u r _ m z hl;refine⟨d,?_,F,by rw[G,qh]⟩;simp only[afp,Instr.fill,A];rw[ap];·rw[<-Array.foldl_toList,Array.toList_zipIdx];have:=JJ (a.eval p.2).cells.toList cs q.1 0;simp only[ahc]at this;rw[this];exact E
    simp;omega
   cases hl
  cases hl
theorem QE(h:cO P b ρ H w nt aa a){t:TypeId}{dA:Array (Nat×Operand)}(C:o.op=.build t dA)(j:bG P nt o=some ao)(he:aD ao aa H=some (v,H')):bt P b ρ w (execOp a.eval o) v H':=by
 simp only[bG,C,acC,aaU]at j;obtain⟨z,M,d,hd,j⟩:=j;obtain⟨zv,u,y,A⟩:=qj M;split at j
 .rename_i L;simp only[aaU,aeO,aaM]at j;obtain⟨c,G,l,hl,rfl⟩:=j;simp only[aD,adN,abS]at he;obtain⟨q,⟨r,D,rfl⟩,rfl,rfl⟩:=he;obtain⟨k,E,F,_⟩:=BF h (λi=>c[i]?) dA.toList l z.cells r zv.cells hl (VR.cells (y ρ) A) D;have g:(L.mapM λ(f:Field)=>(do pure (f.offset,<-sizeOf f.type):Sem (Nat×Nat))).run P w=.ok c.toArray w:=by
   rw[Array.mapM_eq_mapM_toList];have:∀(m:List Field)(pl:List (Nat×Nat)),m.mapM (λ(f:Field)=>(dZ P f.type).map λs=>(f.offset,s))=some pl->(m.mapM λ(f:Field)=>(Prod.mk f.offset<$>sizeOf f.type:Sem (Nat×Nat))).run P w=.ok pl w:=by intro m;induction m with|nil=>intro pl h;simp at h;subst h;simp|cons f m N=>intro pl h;simp only[ag5,acC,aaU,aeO,aaM,adN]at h;obtain⟨_,⟨s,hs,rfl⟩,J,h2,rfl⟩:=h;simp[ag5,gU hs,N J h2]
   simp[this L.toList c G]
  refine bt.val (c:=.agg k) (w':=w) ?_ (bZ.bN h.I (by simp only[VR];exact F));have B:(dA.map λp=>(p.1,a.eval p.2)).toList=dA.toList.map λp=>(p.1,a.eval p.2):=aF;simp only[execOp,C,Instr.build,Sem.run_bind,u,Result.andThen_ok,bJ hd,g];have K:(λ(i:Nat)=>c.toArray[i]?)=(λ(i:Nat)=>c[i]?):=by funext i;simp
  simp only[K];have:(dA.map λx=>match x with|(i,x)=>(i,a.eval x)).toList=dA.toList.map λp=>(p.1,a.eval p.2):=aF;rw[this,E];simp
 .rename_i n e;simp only[aaU,aeO,aaM]at j;obtain⟨s,hs,l,hl,rfl⟩:=j;simp only[aD,adN,abS]at he;obtain⟨q,⟨r,D,rfl⟩,rfl,rfl⟩:=he;obtain⟨k,E,F,_⟩:=BF h (λi=>some (i*s,s)) dA.toList l z.cells r zv.cells (by simpa using hl) (VR.cells (y ρ) A) D;refine bt.val (c:=.agg k) (w':=w) ?_ (bZ.bN h.I (by simp only[VR];exact F));have:(dA.map λx=>match x with|(i,x)=>(i,a.eval x)).toList=dA.toList.map λp=>(p.1,a.eval p.2):=aF;simp only[execOp,C,Instr.build,Sem.run_bind,u,Result.andThen_ok,bJ hd,gU hs];rw[this,E];simp
 cases j
end
section
variable{P:Program}{b:bS}{ρ:aO}{H H':ah}{w:World}{nt:Nat}{aa:ak AV}{a:Act}{o:Oper}{ao:bE}{v:AV}
theorem QF(h:cO P b ρ H w nt aa a){t:TypeId}{len:Nat}{dA:Array (Nat×Operand)}(E:o.op=.buildSlice t len dA)(c:bG P nt o=some ao)(he:aD ao aa H=some (v,H')):bt P b ρ w (execOp a.eval o) v H':=by
 simp only[bG,E,acC,aaU]at c;obtain⟨d,hd,c⟩:=c;split at c
 .rename_i e;simp only[aaU]at c;obtain⟨s,hs,z,F,c⟩:=c;split at c;·cases c
  rename_i C;simp only[aaU,aeO,aaM]at c;obtain⟨l,hl,rfl⟩:=c;simp only[aD]at he;split at he
  .rename_i r G;split at he
   .rename_i h1;simp only[aaM,abS]at he;obtain⟨rfl,rfl⟩:=he;obtain⟨zv,j,q,u⟩:=qj F;have k:=VR.cells (q ρ) u;have y:=aQ.length k;simp only[af7]at y;have f:zv.cells.size=s:=ab;have m:=BE (ρ:=ρ) k len ab;obtain⟨A,n,J,N⟩:=BF h (λi=>some (i*s,s)) dA.toList l (eo z.cells len) r ((ahl (len*zv.cells.size)).map (zv.cells[·% zv.cells.size]!)) (by simpa using hl) m G;obtain⟨K,L,M⟩:=vl h.I J e r.length rfl [];refine bt.val (c:=.slice (some ⟨w.heap.size,0,none⟩) len len) (w':={w with heap:=w.heap.push (.cells (A.toList++[]).toArray e (0,0))}) ?_ ⟨_,K,?_,L,M⟩
    .have:(dA.map λx=>match x with|(i,x)=>(i,a.eval x)).toList=dA.toList.map λp=>(p.1,a.eval p.2):=aF;simp only[execOp,E,Instr.buildSlice,Sem.run_bind,bJ hd,Result.andThen_ok,gU hs,Sem.run_ite];rw[ap ab];have D:(if len*s=0 then(Sem.run P (pure #[]) w:Result (Array Value))else Sem.run P (do pure (<-zeroValue e).cells) w)=.ok (if len*s=0 then #[]else zv.cells) w:=by split<;>simp[j]
     by_cases g:len*s=0
     .rw[aJ g];simp only[Sem.run_pure,Result.andThen_ok];have B:((ahl (len*s)).map λx=>(#[]:Array Value)[x %(#[]:Array Value).size]!)=((ahl (len*zv.cells.size)).map (zv.cells[·% zv.cells.size]!)):=by rw[f,g];simp
      rw[B,this,n];simp[newRow]
     rw[ap g];simp only[Sem.run_bind,j,Sem.run_pure,Result.andThen_ok];rw[this];rw[f]at n;rw[f,n];simp[newRow]
    simp only[VR];exact⟨trivial,adv _,adv _,λ_=>trivial,_,_,aO.dU ..,λ_=>by simp,λh=>by cases h⟩
   cases he
  cases he
 cases c
theorem QG(X:Array Value):(X.toList++[]).toArray=X:=aF
theorem rl{n:Nat}(h:dH n=true):n<=70368744177664:=afx h
theorem QH(h:cO P b ρ H w nt aa a){t:TypeId}{x y:Operand}(R:o.op=.makeSlice t x y)(g:bG P nt o=some ao)(he:aD ao aa H=some (v,H')):bt P b ρ w (execOp a.eval o) v H':=by
 simp only[bG,R,acC,aaU]at g;obtain⟨d,hd,g⟩:=g;split at g
 .rename_i e;simp only[aaU]at g;obtain⟨s,hs,z,Y,g⟩:=g;split at g;·cases g
  rename_i Q;simp only[aaU,aeO,aaM]at g;obtain⟨A,B,ox,h1,oy,h2,rfl⟩:=g;simp only[aD]at he;have S:=h.gv h1;have T:=h.gv h2;split at he
  .rename_i l c hl C;split at he
   .rename_i dF;simp only[ae9]at dF;obtain⟨⟨D,E⟩,F⟩:=dF;have n:l<=c:=afx D;have W:=rl E;have X:=rl F;simp only[aaM,abS]at he;obtain⟨rfl,rfl⟩:=he;rw[hl]at S;rw[C]at T;obtain⟨k1,ag,Z⟩:=S.ie;obtain⟨k2,av,hy⟩:=T.ie;obtain⟨zv,G,J,K⟩:=qj Y;have k:=VR.cells (J ρ) K;have m:=aQ.length k;simp only[af7]at m;have i:zv.cells.size=s:=ab;have p:=BE (ρ:=ρ) k c ab;obtain⟨q1,q2,q3⟩:=vl h.I p e (c*s) (by rw[zD,m,i]) [];obtain⟨ti,L,M⟩:=Fz B;refine bt.val (c:=.slice (some ⟨w.heap.size,0,none⟩) l c) (w':={w with heap:=w.heap.push (.cells (((ahl (c*zv.cells.size)).map (zv.cells[·% zv.cells.size]!)).toList++[]).toArray e (0,0))}) ?_ ⟨_,q1,?_,q2,q3⟩
    .have N:IntKind.i64.wrap (age l)=l:=zC _ (by simp only[afm];omega) (by simp only[afm];omega);have O:IntKind.i64.wrap (age c)=c:=zC _ (by simp only[afm];omega) (by simp only[afm];omega);have q:¬((ti.bytes:Int)*(c:Int)>2^48):=by
      have e1:(2:Int)^48=281474976710656:=bo;rw[e1,M];have:((A*c:Nat):Int)<=281474976710656:=by rw[Nat.mul_comm];omega
      push_cast at this;omega
     have r:¬((c:Int)<0):=ab;have j:¬((l:Int)<0):=ab;have u:¬((l:Int)>(c:Int)):=ab;simp only[execOp,R,Instr.makeSlice,Sem.run_bind,bJ hd,Result.andThen_ok,Z,hy,asInt,asIntOf,Sem.run_pure,vh L,N,O];simp only[q,r,j,u,decide_false,Bool.or_false,abe,bD];rw[QG];by_cases V:c*s=0
     .simp only[run_askRoom,Result.andThen_ok,gU hs,afs,V,i,newRow,bf,Sem.run_bind,Sem.run_pure,run_newObj];have h0:∀f:Nat->Value,(ahl 0).map f= #[]:=λf=>by simp
      simp only[h0]
     simp only[run_askRoom,Result.andThen_ok,gU hs,afs,V,i,newRow,bD,Sem.run_bind,Sem.run_pure,run_newObj,G]
    simp only[VR];exact⟨trivial,n,adv _,λ_=>trivial,_,_,aO.dU ..,λ_=>by simp,λh=>by cases h⟩
   cases he
  cases he
 cases g
theorem QI(h:cO P b ρ H w nt aa a){t d:TypeId}{x:Operand}(S:o.op=.convert t d x)(f:bG P nt o=some ao)(he:aD ao aa H=some (v,H')):bt P b ρ w (execOp a.eval o) v H':=by
 simp only[bG,S,acC,aaU]at f;obtain⟨ts,A,td,B,f⟩:=f;split at f
 .rename_i k0 k;simp only[aaU,aeO,aaM]at f;obtain⟨X,h1,rfl⟩:=f;have u:=h.gv h1;simp only[aD]at he;split at he;·rename_i j n G;simp only[aaM,abS]at he;obtain⟨rfl,rfl⟩:=he;rw[G]at u;obtain⟨k',_,E⟩:=u.ie;exact bt.val (c:=.int k (k.wrap n)) (w':=w) (by simp[execOp,S,convert,bJ A,bJ B,E,Conv.intToInt]) (bZ.bN h.I (by simp[VR,sY]))
  cases he
 .simp only[aaU,aeO,aaM]at f;obtain⟨X,h1,rfl⟩:=f;have u:=h.gv h1;simp only[aD]at he;split at he;·rename_i s G;simp only[aaM,abS]at he;obtain⟨rfl,rfl⟩:=he;rw[G]at u;obtain⟨p,M,E⟩:=u.kJ;exact bt.val (c:=.string p) (w':=w) (by simp[execOp,S,convert,bJ A,bJ B,E]) (bZ.bN h.I (by rw[E]at u;exact u))
  cases he
 .rename_i e;simp only[aaU]at f;obtain⟨te,J,f⟩:=f;split at f
  .simp only[bf]at f;split at f;case isFalse=>cases f
   rename_i V;simp only[aaU,aeO,aaM]at f;obtain⟨X,h1,rfl⟩:=f;have u:=h.gv h1;simp only[aD]at he;split at he
   .rename_i s G;simp only[aaM,abS]at he;obtain⟨rfl,rfl⟩:=he;rw[G]at u;obtain⟨p,M,E⟩:=u.kJ;have ag:p.size=s.length:=by rw[<-M,afJ,af7];rfl
    have a':=grownCap_ge w p.size 0 e;have C:=Lib.run_convert_string_bytes (P:=P) w t d e p A B J;have W:(Lib.bytesCells w e p).size=grownCap w p.size 0 e:=by simp only[Lib.bytesCells,Array.size_append,Array.size_map,Array.size_replicate];have:p.data.size=p.size:=rfl;omega
    have D:(Lib.bytesWorld w e p).heap=w.heap.push (.cells (Lib.bytesCells w e p) e ((Lib.bytesCells w e p).size,(Lib.bytesCells w e p).size+1)):=by
     apply ag6;intro j;rw[agF];by_cases hj:j=w.heap.size;·rw[aJ hj,hj,Lib.bytesWorld_at_new]
     rw[ap hj];rcases afZ j w.heap.size with y|a6;·exact Lib.bytesWorld_at_old w e p j y
     rw[afU (by rw[Lib.bytesWorld_size];omega),afU ab]
    obtain⟨Y,Z,q3⟩:=h.I.alloc (q:=((Lib.bytesCells w e p).size,(dZ P e).getD 0)) (hq:=rfl) (o:=.cells (bX (s.map λn=>.int 4 (.ofNat n))) s.length e true [] 0) (ob:=.cells (Lib.bytesCells w e p) e ((Lib.bytesCells w e p).size,(Lib.bytesCells w e p).size+1)) aF rfl (by
     simp only[OR];refine⟨trivial,ab,λi hi=>?_,λ_ i _ hi=>by omega⟩;have N:i<p.data.size:=by have:p.data.size=p.size:=rfl;omega
     refine⟨.int .u8 (p.data[i]).toNat,?_,?_⟩;·simp only[Lib.bytesCells,afC];rw[Array.getElem?_append_left (by simpa using N)];simp only[Array.getElem?_map,getElem?_pos p.data i N,afL]
     rw[me _ _ (by simpa using hi)];have av:s[i]?=some (p.data[i]).toNat:=by rw[<-M,af0,aga,getElem?_pos p.data i N];rfl
     have:i<s.length:=hi;simp only[ahn,af0,av,afL,af5,VR];exact⟨rfl,rfl⟩);refine bt.val (c:=.slice (some ⟨w.heap.size,0,none⟩) p.size (grownCap w p.size 0 e)) (w':=Lib.bytesWorld w e p) (by simp only[execOp,S,E,Sem.run_bind,C,Result.andThen_ok,Sem.run_pure]) ⟨_,Y,?_,Z.u9 D,q3.u9 D rfl rfl rfl⟩;simp only[VR];refine⟨ag,adv _,ab,(λf=>by cases f),_,_,aO.dU ..,(λ_=>by simp),λ_=>?_⟩;rw[aO.pZ];simp only[V,af5];omega
   cases he
  simp at f
 .rename_i e;simp only[aaU]at f;obtain⟨te,J,f⟩:=f;split at f
  .simp only[bf,aaU,aeO,aaM]at f;obtain⟨X,h1,rfl⟩:=f;have u:=h.gv h1;simp only[aD]at he;split at he;·rename_i G;simp only[aaM,abS]at he;obtain⟨rfl,rfl⟩:=he;rw[G]at u;have E:=u.kK;exact bt.val (c:=.string .empty) (w':=w) (by simp[execOp,S,convert,bJ A,bJ B,bJ J,E,Conv.bytesToString]) (bZ.bN h.I (by simp[VR]))
   .rename_i id off len cap ex G;split at he
    .rename_i l hl;simp only[adN,abS]at he;obtain⟨bs,bW,rfl,rfl⟩:=he;rw[G]at u;obtain⟨ad,cp,E,p1,p2,p3,bb,z,hb,p4,p5⟩:=u.lN;have L:∀(l:List AV)(m:List Value)(r:List Nat),zf l=some r->aQ ρ l m->m=(r.map age).map (Value.int .u8)/\∀n∈r,n<256:=by
      intro l;induction l with
      |nil=>intro m r h1 h2;cases m with|nil=>simp only[zf,aaM]at h1;subst h1;simp|cons _ _=>simp[aQ]at h2
      |cons v l T=>
       intro m r h1 h2;cases m with
       |nil=>simp[aQ]at h2
       |cons c m=>
        simp only[aQ]at h2;simp only[zf]at h1;split at h1
        .rename_i n r' F e2;injection h1 with h1;subst h1;obtain⟨g,g'⟩:=T m r' e2 h2.2;unfold I4 at F;split at F
         .rename_i n';split at F
          .rename_i y;injection F with F;subst F;obtain⟨k',hk,aw⟩:=h2.1.ie;have:k'=.u8:=sX (by rw[<-hk];rfl);subst this;have a8:n'<256:=afT (Nat.lt_succ_self n') (afx y);refine⟨by simp[g,aw],λq hq=>?_⟩;rcases acn.1 hq with e|e;·omega
           exact g' q e
          cases F
         cases F
        cases h1
     have Q:∃m:List Value,(loadCells ad len).run P w=.ok m.toArray w/\aQ ρ l m:=by
      rcases agX len with hz|hz
      .subst hz;refine⟨[],by simp[loadCells,loadCellsFrom],?_⟩;unfold dK at hl;split at hl;·simp only[eX,aaM]at hl;subst hl;simp[aQ]
       cases hl
      have:=p4 ab;subst this;unfold dK at hl;split at hl;·rename_i c m' e' ba aM fz hi;obtain⟨b',x',ob,K,y,ax,O⟩:=h.I.bm (i:=id) (by rw[hi];simp);rw[hb]at K;injection K with K;injection K with F e2;subst F;subst e2;rw[hi]at O;cases ob with|cells cs el fr=>obtain⟨Y,Z⟩:=Bx O hl;exact⟨_,zu w ax (z+off) len (Z hz),Y⟩|_=>simp[OR]at O
      cases hl
     obtain⟨m,hm,ay⟩:=Q;obtain⟨a1,y⟩:=L l m bs bW ay;subst a1;have C:=run_bytesToString (P:=P) w ad len cp (bs.map age) hm;have R:∀(r:List Nat)(s:ByteArray),((r.map age).foldl (λr n=>r.push (ahh n.toNat)) s).data.toList=s.data.toList++r.map ahh:=by intro r;induction r with|nil=>intro s;simp|cons n r T=>intro s;simp only[afp,List.foldl_cons];rw[T];simp[ByteArray.push]
     refine bt.val (c:=.string _) (w':=w) (by simp[execOp,S,convert,bJ A,bJ B,bJ J,E,C];rfl) (bZ.bN h.I ?_);simp only[VR];rw[R];simp only[afS,ag1];have:bs.map (agW∘ahh)=bs:=by
      have a2:∀(r:List Nat),(∀n∈r,n<256)->r.map (agW∘ahh)=r:=by intro r;induction r with|nil=>intro _;rfl|cons n r T=>intro hr;rw[afp,T (λq hq=>hr q (aco _ hq))];have:=hr n (abL ..);simp only[Function.comp,UInt8.toNat_ofNat',afM,and_true];omega
      exact a2 bs y
     rw[this];rfl
    cases he
   cases he
  simp at f
 cases f
theorem QJ(h:cO P b ρ H w nt aa a){x:Operand}{q t:TypeId}{ok:Bool}(r:o.op=.typeAssert x q t ok)(j:bG P nt o=some ao)(he:aD ao aa H=some (v,H')):bt P b ρ w (execOp a.eval o) v H':=by
 simp only[bG,r,acC,aaU]at j;obtain⟨d,hd,j⟩:=j;have key:(∀m,d≠.interface m)/\∃z k,mc P t=some z/\eC P nt x=some k/\ao=.typeAssert t z ok k:=by cases d<;>simp only[bf,abe,bD,aaU,aeO,aaM]at j<;>first|(cases j;done)|(obtain⟨z,h0,k,h1,h2⟩:=j;exact⟨(λm e=>by cases e),z,k,h0,h1,h2.symm⟩)
 obtain⟨g,z,k,J,h1,rfl⟩:=key;obtain⟨zv,l,n,K⟩:=qj J;have A:=h.gv h1;simp only[aD]at he;have G:∀{c:Value}{w':World}{s:Sem Value},s.run P w=.ok c w'->(do pure (.value (<-s)):Sem Next).run P w=.ok (.value c) w':=λh=>by simp[h]
 have p:(Instr.typeAssert .nilIface q t true).run P w=.ok (.tuple #[zv,.bool false]) w:=by simp only[Instr.typeAssert,Sem.run_bind,bJ hd,Result.andThen_ok];cases d<;>first|(exact absurd rfl (g _))|simp[l]
 have i:∀(c:Value)(M:Bool),(Instr.typeAssert (.iface t c) q t M).run P w=.ok (if M then .tuple #[c,.bool true]else c) w:=by intro c M;simp only[Instr.typeAssert,Sem.run_bind,bJ hd,Result.andThen_ok];cases d<;>first|(exact absurd rfl (g _))|simp
 have f:∀(u:TypeId)(c:Value),u≠t->(Instr.typeAssert (.iface u c) q t true).run P w=.ok (.tuple #[zv,.bool false]) w:=by intro u c hu;simp only[Instr.typeAssert,Sem.run_bind,bJ hd,Result.andThen_ok];cases d<;>first|(exact absurd rfl (g _))|simp[hu,l]
 split at he
 .rename_i C;rw[C]at A;have B:=A.zA;split at he;·rename_i dF;subst dF;simp only[aaM,abS]at he;obtain⟨rfl,rfl⟩:=he;exact bt.val (c:=.tuple #[zv,.bool false]) (w':=w) (by simp[execOp,r,B,p]) (bZ.bN h.I (by simp[VR,aQ,n ρ]))
  cases he
 .rename_i u L C;rw[C]at A;obtain⟨y,F,B⟩:=A.vc;split at he
  .rename_i hu;have D:u=t:=afo hu;subst D;simp only[aaM,abS]at he;obtain⟨rfl,rfl⟩:=he;refine bt.val (c:=if ok then .tuple #[y,.bool true]else y) (w':=w) (by simp[execOp,r,B,i]) (bZ.bN h.I ?_);cases ok;·exact F
   simp[VR,aQ,F]
  rename_i hu;split at he;·rename_i dF;subst dF;simp only[aaM,abS]at he;obtain⟨rfl,rfl⟩:=he;have E:u≠t:=λe=>hu (by subst e;simp);exact bt.val (c:=.tuple #[zv,.bool false]) (w':=w) (by simp[execOp,r,B,f u y E]) (bZ.bN h.I (by simp[VR,aQ,n ρ]))
  cases he
 cases he
end
section
variable{P:Program}{b:bS}{ρ:aO}{H H':ah}{w:World}{nt:Nat}{aa:ak AV}{a:Act}{o:Oper}{ao:bE}{v:AV}
structure rm(P:Program)(w:World)(argTypes:Array TypeId)(e:TypeId)(size:Nat)(x:Value)(n:Nat)(m:List Value):Prop where
 run:∀(ty:TypeId)(s:Value)(ct:Option Addr)(sLen sCap:Nat),s=.slice ct sLen sCap->∀sT,argTypes[0]?=some sT->P.underlying sT=some (.slice e)->dZ P e=some size->
  (sLen+n<=sCap->∀w',(match ct with|some a=>storeCells (a.add (sLen*size)) m|none=>pure ():Sem Unit).run P w=.ok () w'->
   (Builtin.append_ argTypes ty #[s,x]).run P w=.ok (.slice ct (sLen+n) sCap) w')/\
  (¬sLen+n<=sCap->∀i,P.info? e=some i->(sLen+n)*i.bytes<=70368744177664->sLen+n<=70368744177664->∀z,(∀w,(zeroValue e).run P w=.ok z w)->∀cG:Array Value,(Builtin.firstCells size sLen s).run P w.drew=.ok cG w.drew->
   (Builtin.append_ argTypes ty #[s,x]).run P w=.ok (.slice (some ⟨w.heap.size,0,none⟩) (sLen+n) (grownCap w (sLen+n) sCap e))
     (w.drew.alloc (.cells (cG++m.toArray++Builtin.zeroCells z.cells (grownCap w (sLen+n) sCap e - (sLen+n))) e)))
theorem JK(n:Nat):∀(r c:Nat),256<=c->c<2*n->Builtin.growBy n r c<=2*n
 |0,c,_,h=>by simp only[Builtin.growBy];omega
 |r+1,c,h1,h2=>by
  simp only[Builtin.growBy];split;·omega
  rename_i d;rcases afZ (c+(c+768)/4) (2*n)with h|h;·exact JK n r _ ab h
  have:c+(c+768)/4<=2*n:=ab;have he:c+(c+768)/4=2*n:=ab;cases r with|zero=>simp only[Builtin.growBy];omega|succ r=>simp only[Builtin.growBy];rw[aJ ab];omega
theorem QK{c cG:Nat}(h:cG<c):Builtin.nextslicecap c cG<=2*c:=by
 unfold Builtin.nextslicecap;split;·omega
 split;·omega
 exact JK c 4 cG ab ab
theorem BG{c cG d:Nat}(h:cG<c)(hb:c*d<=70368744177664):¬(Builtin.nextslicecap c cG*d>2^48):=by
 have h1:=afN d (QK h);have h2:2*c*d=2*(c*d):=by rw[Nat.mul_assoc]
 have e:(2:Nat)^48=281474976710656:=bo;omega
theorem rm.QL{argTypes:Array TypeId}{e B:TypeId}{size n:Nat}{x:Value}{m:List Value}{h:TypeDesc}(t:argTypes[1]?=some B)(f:P.underlying B=some h)(j:∀k,h≠.int k)(d:∀u:World,(Builtin.lenOf x).run P u=.ok n u)(h1:(Builtin.firstCells size n x).run P w=.ok m.toArray w)(h2:(Builtin.firstCells size n x).run P w.drew=.ok m.toArray w.drew):rm P w argTypes e size x n m:=by
 refine⟨λE s ct l C hs F hT hu g=>⟨λc u cD=>?_,λc i hi y D z r cG dV=>?_⟩⟩
 .subst hs;have r:(match h with|.int _=>true|_=>false)=false:=by cases h<;>first|rfl|(exact absurd rfl (j _))
  cases ct with|none=>simp only[Sem.run_pure,Result.ok.injEq,true_and]at cD;subst cD;simp[Builtin.append_,hT,t,bJ hu,gU g,bJ f,r,d,c,h1]|some ad=>simp only at cD;simp[Builtin.append_,hT,t,bJ hu,gU g,bJ f,r,d,c,h1,cD]
 subst hs;have A:(match h with|.int _=>true|_=>false)=false:=by cases h<;>first|rfl|(exact absurd rfl (j _))
 have p:=BG (Nat.lt_of_not_le c) y;have q:¬(((l+n:Nat):Int)>IntKind.i64.max):=by have:IntKind.i64.max=9223372036854775807:=bo;rw[this];omega
 simp only[Builtin.append_,hT,t,bJ hu,gU g,bJ f,A,d,c,Sem.run_bind,Result.andThen_ok,Sem.run_pure,abe,bD,List.getElem?_toArray,agO,af9,vh hi,q,false_and,p,run_choose,Question.forced,run_askRoom];rw[show({heap:=w.heap,tape:=w.tape,drawn:=w.drawn+1,os:=w.os,output:=w.output}:World)=w.drew from rfl,dV];simp only[Result.andThen_ok,Bool.not_false,bf,h2,r,newRow,Sem.run_bind,run_newObj,Sem.run_pure];rfl
theorem rm.QM{argTypes:Array TypeId}{e E:TypeId}{size n h:Nat}{k J:IntKind}{z:Value}(F:argTypes[1]?=some E)(j:P.underlying E=some (.int k))(x:uU P e=some h)(O:n*h<=70368744177664)(M:n<=70368744177664)(K:∀w,(zeroValue e).run P w=.ok z w)(y:z.cells.size=size):rm P w argTypes e size (.int J (n:Int)) n ((ahl (n*z.cells.size)).map (z.cells[·% z.cells.size]!)).toList:=by
 obtain⟨G,d,A⟩:=Fz x;have l:IntKind.i64.wrap (n:Int)=n:=zC _ ab ab;have m:¬((n:Int)*(G.bytes:Int)>2^48):=by have L:(2:Int)^48=281474976710656:=bo;rw[L,A];have:((n*h:Nat):Int)<=281474976710656:=ab;push_cast at this;omega
 have f:¬((n:Int)<0):=ab;have g:∀u,(if n*size=0 then pure #[]else do pure (Builtin.zeroCells (<-zeroValue e).cells n):Sem (Array Value)).run P u=.ok ((ahl (n*z.cells.size)).map (z.cells[·% z.cells.size]!)) u:=by
  intro u;by_cases h0:n*size=0;·rw[aJ h0,y,h0];simp
  rw[ap h0];simp[K,Builtin.zeroCells]
 refine⟨λQ s ct q I hs R hT hu p=>⟨λc u cD=>?_,λc i hi B N S C cG dV=>?_⟩⟩;·subst hs;simp only[Builtin.append_,hT,F,bJ hu,gU p,bJ j,c,Sem.run_bind,Result.andThen_ok,Sem.run_pure,bf,List.getElem?_toArray,agO,af9,asInt,asIntOf,l,f,bD,vh d,m,afs,afP,abe,g];cases ct with|none=>simp only[Sem.run_pure,Result.ok.injEq,true_and]at cD;subst cD;rfl|some ad=>simp only at cD;simp only[Sem.run_bind,cD,Result.andThen_ok,Sem.run_pure]
 subst hs;have r:=BG (Nat.lt_of_not_le c) B;have t:¬(((q+n:Nat):Int)>IntKind.i64.max):=by have:IntKind.i64.max=9223372036854775807:=bo;rw[this];omega
 have D:i=G:=by rw[hi]at d;injection d
 subst D;simp only[Builtin.append_,hT,F,bJ hu,gU p,bJ j,c,Sem.run_bind,Result.andThen_ok,Sem.run_pure,bf,List.getElem?_toArray,agO,af9,asInt,asIntOf,l,f,bD,vh d,m,afs,afP,abe,t,false_and,r,run_choose,Question.forced,run_askRoom];rw[show({heap:=w.heap,tape:=w.tape,drawn:=w.drawn+1,os:=w.os,output:=w.output}:World)=w.drew from rfl,dV];simp only[Result.andThen_ok,g,C,newRow,Sem.run_bind,run_newObj,Sem.run_pure];rfl
end
section
variable{P:Program}{b:bS}{ρ:aO}{H H':ah}{w:World}{nt:Nat}{aa:ak AV}{a:Act}{o:Oper}{ao:bE}{v:AV}
theorem FE(c:Array Value)(n:Nat):(Builtin.zeroCells c n).size=n*c.size:=by simp[Builtin.zeroCells]
theorem JL(r:bj P b ρ H w){id:af}{off len k m:Nat}{ad:Addr}{J x:Nat}(hb:ρ id=some (J,x))(h:k≠0->ad=⟨J,x+off,none⟩)(q:len<=k){size:Nat}(E:m=len*size){l:List AV}(hl:dK H id off m=some l):∃p:List Value,aQ ρ l p/\l.length=m/\∀f:World,f.heap=w.heap->(loadCells ad m).run P f=.ok p.toArray f:=by
 unfold dK at hl;split at hl
 .rename_i c n e B aM fz hi;obtain⟨i,_,_⟩:=Bw m c n off l hl;rcases agX m with h0|h0;·subst h0;simp only[eX,aaM]at hl;subst hl;exact⟨[],by simp[aQ],rfl,λf _=>by simp[loadCells,loadCellsFrom]⟩
  have C:len≠0:=by intro e;subst e;omega
  have:=h ab;subst this;obtain⟨F,G,s,g,D,j,d⟩:=r.bm (i:=id) (by rw[hi];simp);rw[hb]at g;injection g with g;injection g with t u;subst t;subst u;rw[hi]at d;cases s with|cells cs I fr=>obtain⟨y,z⟩:=Bx d hl;exact⟨_,y,i,λf A=>zu f (by rw[A];exact j) (x+off) m (z h0)⟩|_=>simp[OR]at d
 cases hl
theorem FF(k:bj P b ρ H w){x:AV}{c:Value}(i:VR ρ x c){size n:Nat}{l:List AV}(h:gh H size x=some (n,l)):∃g:List Value,aQ ρ l g/\l.length=n*size/\(∀d:World,(Builtin.lenOf c).run P d=.ok n d)/\∀d:World,d.heap=w.heap->(Builtin.firstCells size n c).run P d=.ok g.toArray d:=by
 unfold gh at h;split at h;·simp only[aaM,abS]at h;obtain⟨rfl,rfl⟩:=h;have:=i.kK;subst this;exact⟨[],by simp[aQ],aF,λd=>by simp[Builtin.lenOf],λd _=>by simp[Builtin.firstCells]⟩
 .rename_i id off len cap ex;split at h;·rename_i B hl;simp only[aaM,abS]at h;obtain⟨rfl,rfl⟩:=h;obtain⟨ad,C,rfl,D,E,F,I,z,hb,m,G⟩:=i.lN;obtain⟨g,p,q,r⟩:=JL (P:=P) k hb m ab rfl hl;exact⟨g,p,q,λd=>by simp[Builtin.lenOf],λd y=>by simp only[Builtin.firstCells];exact r d y⟩
  cases h
 .rename_i s;split at h
  .rename_i e;have e:=afo e;subst e;simp only[aaM,abS]at h;obtain⟨rfl,rfl⟩:=h;obtain⟨t,j,rfl⟩:=i.kJ;have f:t.size=s.length:=by rw[<-j,afJ,af7];rfl
   refine⟨t.data.toList.map λI=>.int .u8 I.toNat,?_,aF,λd=>by simp[Builtin.lenOf,f],λd _=>?_⟩;·rw[<-j];generalize t.data.toList=l;induction l with|nil=>simp[aQ]|cons u l A=>simp only[afp,aQ];exact⟨by simp[VR,kc],A⟩
   simp only[Builtin.firstCells,Sem.run_pure,Result.ok.injEq,and_true];rw[<-f];have:t.extract 0 t.size=t:=by apply ByteArray.ext;rw[ByteArray.data_extract];exact Array.extract_size
   rw[this];apply Array.toList_inj.1;simp
  cases h
 cases h
theorem FG(w:World)(A:Array Value)(L:List Value)(e:TypeId)(h:A.toList=L):w.alloc (.cells A e)={w with heap:=w.heap.push (.cells L.toArray e (0,0))}:=by subst h;show({w with heap:=w.heap.push (.cells A e)}:World)=_;rw[Array.toArray_toList]
theorem QN(D:bj P b ρ H w){s:AV}{sv:Value}(hs:VR ρ s sv){argTypes:Array TypeId}{ty sT e size V n:Nat}{l:List AV}{m:List Value}{x:Value}(S:rm P w argTypes e size x n m)(hl:aQ ρ l m)(A:l.length=n*size)(hT:argTypes[0]?=some sT)(hu:P.underlying sT=some (.slice e))(t:dZ P e=some size)(a':uU P e=some V){z:Value}(hz:∀w,(zeroValue e).run P w=.ok z w)(ag:z.cells.size=size)(he:iR e V size H s n l=some (v,H')):∃c w',(Builtin.append_ argTypes ty #[sv,x]).run P w=.ok c w'/\bZ P b ρ w v H' c w':=by
 obtain⟨ti,av,aw⟩:=Fz a';have ba:=aQ.length hl;unfold iR at he;split at he;·cases he
 rename_i K;have K:cL l=true:=by simpa using K
 have u:cX b w w.drew:=(cX.refl b w).drew;split at he
 .have:=hs.kK;subst this;have g:=S.run ty (.slice none 0 0) none 0 0 rfl sT hT hu t;split at he;·rename_i r;have r:=afo r;subst r;simp only[aaM,abS]at he;obtain⟨rfl,rfl⟩:=he;exact⟨_,w,g.1 ab w aF,bZ.bN D (by simp[VR])⟩
  rename_i r;have r:n≠0:=λe=>r (by subst e;rfl);split at he
  .rename_i q;simp only[ae9]at q;simp only[aaM,abS]at he;obtain⟨rfl,rfl⟩:=he;have bb:=grownCap_ge w (0+n) 0 e;have h2:=g.2 ab ti av (by rw[afC,aw];exact rl q.1) (by rw[afC];exact rl q.2) z hz #[] (by simp[Builtin.firstCells]);obtain⟨q1,q2,q3⟩:=vl (P:=P) (w:=w.drew) D.drew hl e (n*size) A.symm (Builtin.zeroCells z.cells (grownCap w (0+n) 0 e - (0+n))).toList;refine⟨_,_,h2,_,q1,?_,?_,?_⟩;·simp only[VR];refine⟨ab,adv _,ab,(λh=>by cases h),_,_,aO.dU ..,λ_=>rfl,λ_=>?_⟩;rw[aO.pZ];simp only[t,af5,afq,af7,FE,ag,<-ba,A];rw[Nat.sub_mul];have:=afN size bb;simp only[afC]at this⊢;omega
   .rw[FG _ _ (m++(Builtin.zeroCells z.cells (grownCap w (0+n) 0 e - (0+n))).toList) _ aF];exact q2
   rw[FG _ _ (m++(Builtin.zeroCells z.cells (grownCap w (0+n) 0 e - (0+n))).toList) _ aF];exact u.trans q3
  cases he
 .rename_i id off len cap ex;obtain⟨ad,E,rfl,q1,q2,q3,cp,G,hb,q4,q5⟩:=hs.lN;have g:=S.run ty (.slice (some ad) len E) (some ad) len E rfl sT hT hu t;simp only at he;split at he
  .rename_i d;have d:=afx d;split at he
   .rename_i r;have r:=afo r;subst r;simp only[aaM,abS]at he;obtain⟨rfl,rfl⟩:=he;have bd:m=[]:=by rw[Nat.zero_mul]at A;exact List.length_eq_zero_iff.1 ab
    subst bd;refine⟨_,w,g.1 ab w (by simp[storeCells]),bZ.bN D ?_⟩;simp only[VR];exact⟨trivial,d,q2,q3,cp,G,hb,q4,q5⟩
   rename_i r;have r:n≠0:=λe=>r (by subst e;rfl);split at he
   .rename_i H2 hw;simp only[aaM,abS]at he;obtain⟨rfl,rfl⟩:=he;have:=q4 ab;subst this;obtain⟨k1,k2,k3⟩:=zx D hw hb hl;refine⟨_,_,g.1 ab _ ?_,ρ,bQ.refl ρ,?_,k2,k3⟩;·simp only[qf];rw[show G+off+len*size=G+(off+len*size)by omega];exact k1
    simp only[VR];exact⟨trivial,d,q2,q3,cp,G,hb,q4,q5⟩
   cases he
  rename_i d;have d:¬len+n<=cap:=λh=>d (af8 h);split at he;·cases he
  rename_i q;have q:dH ((len+n)*V)=true/\dH (len+n)=true:=by simpa using q
  split at he
  .rename_i c mm e2 b' aM fz hi;split at he;·cases he
   rename_i cG dV;have bv:dK H id off (len*size)=some cG:=by unfold dK;rw[hi];exact dV
   obtain⟨F,g1,g2,g3⟩:=JL (P:=P) D hb q4 ab rfl bv;have b0:(Builtin.firstCells size len (.slice (some ad) len E)).run P w.drew=.ok F.toArray w.drew:=by simp only[Builtin.firstCells];exact g3 _ rfl
   have eJ:aQ ρ (cG++l) (F++m):=aQ.append g1 hl;have p:(len+n)*size=(cG++l).length:=by rw[afq,g2,A,ag8]
   have L:=aQ.length eJ;have M:¬len+n<=E->∃f:List Value,f.length=(grownCap w (len+n) E e - (len+n))*size/\len+n<=grownCap w (len+n) E e/\(Builtin.append_ argTypes ty #[.slice (some ad) len E,x]).run P w=.ok (.slice (some ⟨w.heap.size,0,none⟩) (len+n) (grownCap w (len+n) E e)) {w.drew with heap:=w.heap.push (.cells (F++m++f).toArray e (0,0))}:=by intro r;refine⟨(Builtin.zeroCells z.cells (grownCap w (len+n) E e - (len+n))).toList,by rw[af7,FE,ag],grownCap_ge ..,?_⟩;have h2:=g.2 r ti av (by rw[aw];exact rl q.1) (rl q.2) z hz F.toArray b0;rw[h2,FG _ _ (F++m++(Builtin.zeroCells z.cells (grownCap w (len+n) E e - (len+n))).toList) _ aF];rfl
   split at he;·rename_i I;simp only[aaM,abS]at he;obtain⟨rfl,rfl⟩:=he;have ca:=q3 I;obtain⟨f,r1,r2,r3⟩:=M ab;obtain⟨p1,p2,p3⟩:=vl (P:=P) (w:=w.drew) D.drew eJ e ((len+n)*size) p f;refine⟨_,_,r3,_,p1,?_,p2.u9 rfl,(u.trans p3).u9 rfl rfl rfl rfl⟩;simp only[VR];refine⟨trivial,adv _,r2,(λh=>by cases h),_,_,aO.dU ..,λ_=>rfl,λ_=>?_⟩;rw[aO.pZ];simp only[t,af5,afq (as:=F++m),r1,<-L,<-p];rw[Nat.sub_mul];have:=afN size r2;omega
   rename_i I;have I:ex=false:=by simpa using I
   subst I;split at he;case isFalse=>cases he
   rename_i N;simp only[ae9]at N;obtain⟨⟨⟨⟨b3,W⟩,T⟩,X⟩,ax⟩:=N;subst b3;have W:=afo W;have T:=afo T;have X:=(afo X).symm;have ax:=afx ax;subst W;subst X;simp only[aaM,abS]at he;obtain⟨rfl,rfl⟩:=he;have ay:H.get id≠.none:=by rw[hi];simp
   obtain⟨cn,x',ob,e',cd,Q,R⟩:=D.bm ay;rw[hb]at e';injection e' with e';injection e' with e1 b4;subst e1;subst b4;have i:=D.iw id cp G ob ay hb Q;rw[hi]at R i;cases ob with
   |cells cs el fr=>
    simp only[OR]at R;simp only[dI,t,af5]at i;obtain⟨o1,o2,o3,o4⟩:=R;have O:=q5 rfl;rw[i]at O;simp only at O;by_cases B:len+n<=E
    .have a6:E≠0:=ab;have:=q4 a6;subst this;have a8:=afN size B;rw[ag8]at a8;have cf:m.length=n*size:=ab;have cD:=Jv (P:=P) w Q (G+off+len*size) m ab (λj b6 Y=>o4 trivial j ab ab) (aQ.Fy hl K);obtain⟨f1,f2,f3,f4⟩:=Fx cp el fr m w cs (G+off+len*size) Q;have Z:=Bw (len*size) c mm off cG dV;obtain⟨p1,p2,p3⟩:=D.Jw (w':=w.setCells cp (G+off+len*size) m) hi hb (c2:=bX (cG++l)) (n2:=(len+n)*size) (e2:=e) (fz2:=fz - off) (b2:=cp) (x2:=G+off) (ob2:=.cells (wr cs (G+off+len*size) m) el fr) (ρ.k cp) (by simp only[dI,qh,t,af5];exact i) (λ_=>rfl) (by
      simp only[OR];refine⟨o1,by rw[qh,ag8];omega,λj hj=>?_,λ_ j b6 Y=>o4 trivial j ab (by rw[qh]at Y;exact Y)⟩;have C:bQ ρ (ρ.add H.next cp (G+off) (ρ.k cp)):=aO.oZ _ _ _ (D.cS _ (adv _)).2 (λ_ _ _ _ hc=>by rw[<-hc]);rw[me _ _ ab,zw _ _ _ _ ab];by_cases b7:j<len*size;·rw[ap ab];obtain⟨y,hy,J⟩:=o3 (off+j) ab;refine⟨y,by rw[<-hy];congr 1;omega,VR.mono C _ _ ?_⟩;simp only[ahn];rw[afG ab,Z.2.2 j b7];exact J
      rw[aJ (by rw[ag8]at hj;omega)];have a1:j - len*size<l.length:=by rw[ag8]at hj;omega
      obtain⟨y,hy,J⟩:=aQ.get hl (j - len*size) l[j - len*size] (by simp[a1]);refine⟨y,by rw[<-hy];congr 1;omega,VR.mono C _ _ ?_⟩;simp only[ahn];rw[agl ab,g2,agi a1];exact J) f2 f3 f4 (.inr ⟨rfl,f1,by rw[ag8];omega,cs,_,el,fr,Q,rfl,qh ..,λj hj=>by rw[zw _ _ _ _ ab,ap ab]⟩);refine⟨_,_,g.1 B _ (by simp only[qf];exact cD),_,p1,?_,p2,p3⟩;simp only[VR];refine⟨trivial,adv _,B,(λh=>by cases h),_,_,aO.dU ..,λ_=>by simp,λ_=>?_⟩;rw[aO.pZ,i];simp only;omega
    obtain⟨f,r1,r2,r3⟩:=M B;obtain⟨p1,p2,p3⟩:=D.drew.Jw (w':={w.drew with heap:=w.heap.push (.cells (F++m++f).toArray e (0,0))}) hi hb (c2:=bX (cG++l)) (n2:=(len+n)*size) (e2:=e) (fz2:=fz - off) (b2:=w.heap.size) (x2:=0) (ob2:=.cells (F++m++f).toArray e (0,0)) ((F++m++f).length,size) (by simp only[dI,t,af5,List.size_toArray]) (λh=>by omega) (by
     simp only[OR];refine⟨trivial,by rw[List.size_toArray,afq (as:=F++m),<-L];omega,λj hj=>?_,λ_ j _ _=>by omega⟩;have C:bQ ρ (ρ.add H.next w.heap.size 0 ((F++m++f).length,size)):=aO.oZ _ _ _ (D.cS _ (adv _)).2 (λj' c' y' e' hc=>by have:=D.dO j' c' y' e';omega);rw[me _ _ ab];have a2:j<(cG++l).length:=ab;obtain⟨y,hy,J⟩:=aQ.get eJ j (cG++l)[j] (by simp only[agi a2]);refine⟨y,?_,VR.mono C _ _ ?_⟩;·rw[afC,List.getElem?_toArray,afG ab];exact hy
     simp only[ahn];rw[agi a2];exact J) rfl rfl rfl (.inl ⟨rfl,rfl⟩);refine⟨_,_,r3,_,p1,?_,p2,u.trans p3⟩;simp only[VR];refine⟨trivial,adv _,r2,(λh=>by cases h),_,_,aO.dU ..,λ_=>rfl,λ_=>?_⟩;rw[aO.pZ];simp only[afq (as:=F++m),r1,<-L,<-p];rw[Nat.sub_mul];have:=afN size r2;omega
   |_=>simp[OR]at R
  cases he
 cases he
end
section
variable{P:Program}{b:bS}{ρ:aO}{H H':ah}{w:World}{nt:Nat}{aa:ak AV}{a:Act}{o:Oper}{ao:bE}{v:AV}
theorem QO(h:cO P b ρ H w nt aa a){c:Call}(W:o.op=.call c)(hb:c.callee=.builtin .append)(f:bG P nt o=some ao)(he:aD ao aa H=some (v,H')):bt P b ρ w (execOp a.eval o) v H':=by
 simp only[bG,W,hb,acC,aaU]at f;obtain⟨t,Z,d,hd,f⟩:=f;obtain⟨G,N⟩:=rj (P:=P) (a:=a) W hb w;split at f
 .rename_i e;simp only[aaU]at f;obtain⟨size,O,z,hz,f⟩:=f;split at f;·cases f
  rename_i j;have g:z.cells.length=size/\size≠0/\c.args.size=2:=by simpa[not_or]using j
  have j:z.cells.length=size/\size≠0:=⟨g.1,g.2.1⟩;have Q:=g.2.2;simp only[aaU,aeO,aaM]at f;obtain⟨xT,q,d2,r,R,s,os,⟨X,S,B⟩,ox,⟨J,T,C⟩,rfl⟩:=f;obtain⟨zv,u,x,y⟩:=qj hz;have A:zv.cells.size=size:=by have:=aQ.length (VR.cells (x ρ) y);simp at this;omega
  have gs:=h.gv B;have K:=h.gv C;have p:c.args.map a.eval= #[a.eval X,a.eval J]:=by apply ag6;intro i;match i with|0=>simp[S]|1=>simp[T]|i+2=>rw[afU (by simp[Q]),afU aF]
  have D:(execOp a.eval o).run P w=((Builtin.append_ c.argTypes o.type #[a.eval X,a.eval J]).run P w).andThen λv w=>.ok (.value v) w:=by rw[N];simp only[builtin,p,Sem.run_bind,Sem.run_pure]
  have aB:∀{n:Nat}{l:List AV}{m:List Value},rm P w c.argTypes e size (a.eval J) n m->aQ ρ l m->l.length=n*size->iR e R size H (gv aa os) n l=some (v,H')->bt P b ρ w (execOp a.eval o) v H':=by intro n l m E hl F he;obtain⟨c',w',L,M⟩:=QN (ty:=o.type) h.I gs E hl F Z hd O s u A he;exact bt.val (by rw[D,L];rfl) M
  simp only[aD]at he;split at he
  .simp only[bf]at he;split at he
   .rename_i n hv;split at he;·rename_i hs;simp only[ae9]at hs;rw[hv]at K;obtain⟨k',ag,hx⟩:=K.ie;rw[hx]at aB;refine aB (rm.QM q r s (rl hs.1) (rl hs.2) u A) (BE (VR.cells (x ρ) y) n ab) (by rw[zD,j.1]) he
    cases he
   cases he
  rename_i hm;simp only[abe,bD]at he;split at he;·rename_i n l V;obtain⟨ms,L,M,k3,Y⟩:=FF (P:=P) h.I K V;exact aB (rm.QL q r (λk e=>hm k e) k3 (Y _ rfl) (Y _ rfl)) L M he
  cases he
 cases f
theorem QP(h:cO P b ρ H w nt aa a){c:Call}(ho:o.op=.call c)(hb:c.callee=.builtin .copy)(u:bG P nt o=some ao)(he:aD ao aa H=some (v,H')):bt P b ρ w (execOp a.eval o) v H':=by
 simp only[bG,ho,hb,acC,aaU]at u;obtain⟨t,X,d,hd,u⟩:=u;obtain⟨W,y⟩:=rj (P:=P) (a:=a) ho hb w;split at u
 .rename_i e;simp only[aaU,aeO,aaM]at u;obtain⟨size,A,od,⟨yd,ag,M⟩,os,⟨J,av,N⟩,rfl⟩:=u;have Q:=h.gv M;have j:=h.gv N;have B:(c.args.map a.eval)[0]?=some (a.eval yd):=by simp[ag]
  have C:(c.args.map a.eval)[1]?=some (a.eval J):=by simp[av]
  simp only[aD]at he;split at he
  .rename_i p Y k;obtain⟨n,l⟩:=p;simp only[aaM,abS]at he;obtain⟨rfl,rfl⟩:=he;rw[Y]at Q;have R:=Q.kK;obtain⟨G,Z,k2,S,T⟩:=FF (P:=P) h.I j k;have aw:(Builtin.firstCells size 0 (a.eval J)).run P w=.ok #[] w:=by have:=T w rfl;revert this;cases a.eval J with|slice cv l c=>cases cv<;>simp[Builtin.firstCells,loadCells,loadCellsFrom]|string s=>intro _;simp[Builtin.firstCells]|_=>simp[Builtin.firstCells]
   refine bt.val (c:=goInt 0) (w':=w) ?_ (bZ.bN h.I (VR.goInt ρ 0));rw[y];simp[builtin,Builtin.copy_,X,bJ hd,B,C,R,S,gU A,aw]
  .rename_i id off len cap ex n l Y k;rw[Y]at Q;obtain⟨ad,cp,R,q1,q2,q3,cv,z,ax,q4,q5⟩:=Q.lN;obtain⟨G,Z,k2,S,T⟩:=FF (P:=P) h.I j k;have g:(Builtin.firstCells size (min n len) (a.eval J)).run P w=.ok (G.take (min n len*size)).toArray w:=by
    have:=T w rfl;have bv:=aQ.length Z;revert this;cases m:a.eval J with
    |slice bd ll cc=>
     cases bd with
     |none=>
      simp only[Builtin.firstCells,Sem.run_pure,Result.ok.injEq,and_true];intro h;have:G=[]:=by simpa using h.symm
      subst this;simp
     |some b0=>
      intro _;rw[m]at j;have f:=k;unfold gh at f;split at f;·rename_i x;rw[x]at j;have:=j.kK;cases this
      .rename_i ay q a' ba b3 x;rw[x]at j;obtain⟨b4,b6,e3,r1,r2,r3,cf,z3,a1,r4,r5⟩:=j.lN;simp only[Value.slice.injEq,aaM]at e3;obtain⟨rfl,rfl,rfl⟩:=e3;split at f
       .rename_i l' r;simp only[aaM,abS]at f;obtain⟨rfl,rfl⟩:=f;simp only[Builtin.firstCells];unfold dK at r;split at r
        .rename_i c3 n3 e4 b7 bb b' K;have i:=T w rfl;rw[m]at i;simp only[Builtin.firstCells]at i;rcases agX (min n3 0+min ll len*size)with h0|h0;·have:min ll len*size=0:=ab;rw[this];simp[loadCells,loadCellsFrom]
         have a2:min ll len*size≠0:=ab;have ca:ll≠0:=by intro e;subst e;simp at a2
         have:=r4 ab;subst this;obtain⟨cn,x',ob,V,cd,L,D⟩:=h.I.bm (i:=ay) (by rw[K];simp);rw[a1]at V;injection V with V;injection V with e1 e2;subst e1;subst e2;rw[K]at D;cases ob with
         |cells cs el fr=>
          obtain⟨w1,w2⟩:=Bx D r;have O:min ll len*size<=ll*size:=afN size (Nat.min_le_left _ _);have a6:=w2 ab;have e5:=zu (P:=P) w L (z3+q) (ll*size) a6;rw[i]at e5;simp only[Result.ok.injEq,and_true]at e5;have e6:G=List.take (ll*size) (List.drop (z3+q) cs.toList):=by simpa using e5
          rw[zu (P:=P) w L (z3+q) (min ll len*size) ab,e6,List.take_take,agZ O]
         |_=>simp[OR]at D
        cases r
       cases f
      .rename_i x;rw[x]at j;obtain⟨t,_,e⟩:=j.kJ;cases e
      cases f
    |string s=>
     simp only[Builtin.firstCells,Sem.run_pure,Result.ok.injEq,and_true];intro x;rw[m]at j;have f:=k;unfold gh at f;split at f;·rename_i E;rw[E]at j;have:=j.kK;cases this
     .rename_i E;rw[E]at j;obtain⟨_,_,e,_⟩:=j.lN;cases e
     .split at f
      .rename_i F;have F:=afo F;subst F;have e6:G=((s.extract 0 n).data.map λcv=>Value.int .u8 cv.toNat).toList:=by rw[x]
       rw[e6,agU];apply Array.toList_inj.1;simp only[Array.toList_map,ByteArray.data_extract,Array.toList_extract,List.extract_eq_drop_take,ahd,ahg];rw[<-List.map_take,List.take_take];congr 2;omega
      cases f
     cases f
    |_=>simp[Builtin.firstCells]
   split at he;·rename_i hm;simp only[aaM,abS]at he;obtain⟨rfl,rfl⟩:=he;rw[hm]at g;refine bt.val (c:=goInt 0) (w':=w) ?_ (bZ.bN h.I (VR.goInt ρ 0));have a8:Nat.min n len=0:=hm;rw[y];simp[builtin,Builtin.copy_,X,bJ hd,B,C,R,S,gU A,a8,g,storeCells]
   rename_i hm;split at he;·rename_i H2 hw;simp only[aaM,abS]at he;obtain⟨rfl,rfl⟩:=he;have:=q4 ab;subst this;obtain⟨p1,p2,p3⟩:=zx h.I hw ax (aQ.take (min n len*size) Z);refine bt.val (c:=goInt ((min n len:Nat):Int)) (w':=w.setCells cv (z+off) (G.take (min n len*size))) ?_ ⟨ρ,bQ.refl ρ,VR.goInt ρ _,p2,p3⟩;rw[y];simp only[builtin,Builtin.copy_,X,B,C,Sem.run_bind,bJ hd,Result.andThen_ok,R,S,gU A];rw[show Nat.min n len=min n len from rfl,g];simp[p1]
   cases he
  cases he
 cases u
theorem QQ(h:cO P b ρ H w nt aa a){c:Call}(M:o.op=.call c)(hb:c.callee=.builtin .clear){O:List AV}{x:aL}(J:ao=.uI O x)(f:bG P nt o=some ao)(he:aD ao aa H=some (v,H')):bt P b ρ w (execOp a.eval o) v H':=by
 simp only[bG,M,hb,acC,aaU]at f;obtain⟨t,C,d,hd,f⟩:=f;obtain⟨E,g⟩:=rj (P:=P) (a:=a) M hb w;split at f
 .rename_i e;simp only[aaU,aeO,aaM]at f;obtain⟨z,Q,V,⟨R,K,A⟩,rfl⟩:=f;obtain⟨zv,p,q,r⟩:=qj Q;have D:=h.gv A;have i:(c.args.map a.eval)[0]?=some (a.eval R):=by simp[K]
  simp only[aD]at he;split at he;·rename_i F;simp only[aaM,abS]at he;obtain⟨rfl,rfl⟩:=he;rw[F]at D;have l:=D.kK;refine bt.val (c:=.tuple #[]) (w':=w) ?_ (bZ.bN h.I (VR.ahp ρ));rw[g];simp[builtin,Builtin.clear_,C,i,bJ hd,l]
  .rename_i id off n cap ex F;rw[F]at D;obtain⟨ad,W,l,X,Y,Z,ag,y,s,S,q5⟩:=D.lN;split at he;·rename_i N;simp only[aaM,abS]at he;obtain⟨rfl,rfl⟩:=he;subst N;refine bt.val (c:=.tuple #[]) (w':=w) ?_ (bZ.bN h.I (VR.ahp ρ));rw[g];simp[builtin,Builtin.clear_,C,i,bJ hd,l]
   rename_i N;split at he
   .rename_i H2 G;simp only[aaM,abS]at he;obtain⟨rfl,rfl⟩:=he;have:=S ab;subst this;by_cases u:z.cells.length=0
    .have B:z.cells=[]:=List.length_eq_zero_iff.1 u;have k:∀n,eo z.cells n=[]:=by intro n;rw[B];induction n with|zero=>rfl|succ n T=>simp[eo,T]
     rw[k]at G;have L:zv.cells.size=0:=by have:=aQ.length (VR.cells (q ρ) r);simp at this;omega
     obtain⟨p1,p2,p3⟩:=zx h.I G s (m:=[]) (by simp[aQ]);refine bt.val (c:=.tuple #[]) (w':=w.setCells ag (y+off) []) ?_ ⟨ρ,bQ.refl ρ,VR.ahp ρ,p2,p3⟩;rw[g];have j:(Builtin.zeroCells zv.cells n).toList=[]:=by apply List.length_eq_zero_iff.1;rw[af7,FE,L];omega
     obtain⟨m,rfl⟩:∃m,n=m+1:=⟨n - 1,ab⟩;simp[builtin,Builtin.clear_,C,i,bJ hd,l,p,j,p1]
    obtain⟨p1,p2,p3⟩:=zx h.I G s (BE (VR.cells (q ρ) r) n u);refine bt.val (c:=.tuple #[]) (w':=w.setCells ag (y+off) ((ahl (n*zv.cells.size)).map (zv.cells[·% zv.cells.size]!)).toList) ?_ ⟨ρ,bQ.refl ρ,VR.ahp ρ,p2,p3⟩;rw[g];have j:(Builtin.zeroCells zv.cells n).toList=((ahl (n*zv.cells.size)).map (zv.cells[·% zv.cells.size]!)).toList:=rfl;obtain⟨m,rfl⟩:∃m,n=m+1:=⟨n - 1,ab⟩;simp only[builtin,Builtin.clear_,C,i,Sem.run_bind,bJ hd,Result.andThen_ok,l,p,j,p1,Sem.run_pure]
   cases he
  cases he
 all_goals(try(cases f;done))
 simp only[aaU,aeO,aaM]at f;obtain⟨_,_,f⟩:=f;rw[J]at f;cases f
end
section
variable{P:Program}{b:bS}{ρ:aO}{H H':ah}{w:World}{nt:Nat}{aa:ak AV}{a:Act}{o:Oper}{ao:bE}{v:AV}
def FH(P:Program)(ρ:aO)(f:Nat):Prop:=∀{const:Bool}{t:TypeId}{d:cZ},hZ P f const t=some d->∀{g:Nat}{x y:AV}{r:Bool},cQ g d x y=some r->
 ∀{c e:Value},VR ρ x c->VR ρ y e->∀(n:Nat)(w:World),f<=n->(Op.equalIn n t c e).run P w=.ok r w
theorem JM{f:Nat}(i:FH P ρ f){t u:List AV}{z A:Array Value}(B:aQ ρ t z.toList)(C:aQ ρ u A.toList)(n:Nat)(w:World)(j:f<=n):∀(h:List Field)(l:List (Nat×Nat×Bool×cZ))(g:Nat)(r:Bool),(h.mapM λ(g:Field)=>if g.name= "_" then none else match hZ P f false g.type,dZ P g.type,lL P g.type with|some d,some s,some a=>some (g.offset,s,a,d)|_,_,_=>none)=some l->cQ.go g t u l=some r->(Op.eqFields n z A h).run P w=.ok r w
 |[],l,g,r,h1,h2=>by simp only[List.mapM_nil,aeO,aaM]at h1;subst h1;unfold cQ.go at h2;simp only[aaM]at h2;subst h2;simp[Op.eqFields]
 |K::h,l,g,r,h1,h2=>by
  simp only[ag5,acC,aaU,aeO,aaM]at h1;obtain⟨p,c,G,k,rfl⟩:=h1;split at c;·cases c
  rename_i e;split at c
  .rename_i d s a hd hs D;injection c with c;subst c;cases g with
   |zero=>simp[cQ.go]at h2
   |succ g=>
    simp only[cQ.go]at h2;split at h2
    .rename_i x y m q;obtain⟨L,I,E⟩:=ri (P:=P) (w:=w) B D hs m;obtain⟨M,J,F⟩:=ri (P:=P) (w:=w) C D hs q;simp only[Op.eqFields,e,ne_eq,not_false_eq_true,bf,Sem.run_bind,I,J,Result.andThen_ok];split at h2;·rename_i he;rw[i hd he E F n w j];simp only[Result.andThen_ok,afP,abe,bD];exact JM i B C n w j h G g r k h2
     .rename_i he;injection h2 with h2;subst h2;rw[i hd he E F n w j];simp
     cases h2
    cases h2
  cases c
theorem JN{f:Nat}(c:FH P ρ f){m p:List AV}{q t:Array Value}(u:aQ ρ m q.toList)(z:aQ ρ p t.toList)(n:Nat)(w:World)(h:f<=n){e:TypeId}{s:Nat}{a:Bool}{d:cZ}(hd:hZ P f false e=some d)(hs:dZ P e=some s)(j:lL P e=some a):∀(is:List Nat)(g:Nat)(r:Bool),cQ.go g m p (is.map λi=>(i*s,s,a,d))=some r->(Op.eqItems n e s q t is).run P w=.ok r w
 |[],g,r,h2=>by simp only[agu]at h2;unfold cQ.go at h2;simp only[aaM]at h2;subst h2;simp[Op.eqItems]
 |i::is,g,r,h2=>by
  cases g with
  |zero=>simp[cQ.go]at h2
  |succ g=>
   simp only[afp,cQ.go]at h2;split at h2
   .rename_i x y k l;obtain⟨E,C,A⟩:=ri (P:=P) (w:=w) u j hs k;obtain⟨F,D,B⟩:=ri (P:=P) (w:=w) z j hs l;simp only[Op.eqItems,Sem.run_bind,C,D,Result.andThen_ok];split at h2;·rename_i he;rw[c hd he A B n w h];simp only[Result.andThen_ok,afP,abe,bD];exact JN c u z n w h hd hs j is g r h2
    .rename_i he;injection h2 with h2;subst h2;rw[c hd he A B n w h];simp
    cases h2
   cases h2
set_option maxHeartbeats 1000000 in theorem BH(ρ:aO)(f:Nat):FH P ρ f:=by
 induction f with
 |zero=>intro const t d h;simp[hZ]at h
 |succ f N=>
  intro const t d h g x y r he Y Z c k n w hn;cases n with
  |zero=>omega
  |succ n=>
   have E:f<=n:=ab;unfold hZ at h;split at h;all_goals(rename_i hu)
   .injection h with h;subst h;unfold cQ at he;split at he<;>(try(rename_i m;cases m;done))<;>(try(cases he;done));injection he with he;rw[c.nW,k.nW,<-he];exact run_equalIn_bool' w n t _ _ hu
   .injection h with h;subst h;unfold cQ at he;split at he<;>(try(rename_i m;cases m;done))<;>(try(cases he;done));split at he;·rename_i Q;injection he with he;obtain⟨k1,h1,rfl⟩:=c.ie;obtain⟨k2,h2,rfl⟩:=k.ie;have:=sX (h1.symm.trans (Q.trans h2));subst this;rw[<-he,eT];exact run_equalIn_int w n t _ _ _ _ hu
    cases he
   .injection h with h;subst h;unfold cQ at he;split at he<;>(try(rename_i m;cases m;done))<;>(try(cases he;done));injection he with he;obtain⟨t1,h1,rfl⟩:=c.kJ;obtain⟨O,h2,rfl⟩:=k.kJ;subst h1;subst h2;rw[<-he,<-JC];exact run_equalIn_string w n t _ _ hu
   .split at h
    .rename_i s0 K;injection h with h;subst h;unfold cQ at he;split at he<;>(try(rename_i m;cases m;done))<;>(try(cases he;done));·injection he with he;subst he;rw[c.Bz,k.Bz];simp[Op.equalIn,bJ hu]
     .injection he with he;subst he;obtain⟨ag,z,h1,h2⟩:=k.li;rw[c.Bz,h2];simp[Op.equalIn,bJ hu]
     .injection he with he;subst he;obtain⟨ag,z,h1,h2⟩:=c.li;rw[k.Bz,h2];simp[Op.equalIn,bJ hu]
     rename_i _ i _ j _;split at he
     .rename_i hb;have hb:=af.eS.1 hb;subst hb;injection he with he;obtain⟨ag,z,h1,rfl⟩:=c.li;obtain⟨b',z',u,rfl⟩:=k.li;rw[h1]at u;injection u with u;injection u with R S;subst R;subst S;simp only[Op.equalIn,Sem.run_bind,bJ hu,Result.andThen_ok,gU K];rw[<-he];have:((⟨ag,z+i,none⟩:Addr)==⟨ag,z+j,none⟩)=afw i j:=by
       rw[agp,beq_iff_eq,Addr.mk.injEq];constructor;·intro h;have:i=j:=ab;subst this;exact agB _
       intro h;have:=afo h;subst this;simp
      simp[sameAddr,this]
     cases he
    cases h
   .injection h with h;subst h;unfold cQ at he;split at he<;>(try(rename_i m;cases m;done))<;>(try(cases he;done));all_goals injection he with he;subst he
    .rw[c.kK,k.kK];simp[Op.equalIn,bJ hu]
    .obtain⟨ad,T,h1,_⟩:=k.lN;rw[c.kK,h1];simp[Op.equalIn,bJ hu]
    obtain⟨ad,T,h1,_⟩:=c.lN;rw[k.kK,h1];simp[Op.equalIn,bJ hu]
   .injection h with h;subst h;unfold cQ at he;split at he<;>(try(rename_i m;cases m;done))<;>(try(cases he;done));all_goals injection he with he;subst he
    .rw[c.qi,k.qi];simp[Op.equalIn,bJ hu]
    .obtain⟨ag,_,h1⟩:=k.lO;rw[c.qi,h1];simp[Op.equalIn,bJ hu]
    obtain⟨ag,_,h1⟩:=c.lO;rw[k.qi,h1];simp[Op.equalIn,bJ hu]
   .injection h with h;subst h;unfold cQ at he;split at he<;>(try(rename_i m;cases m;done))<;>(try(cases he;done));all_goals injection he with he;subst he
    .rw[c.vf,k.vf];simp[Op.equalIn,bJ hu]
    .obtain⟨p,q,_,_,h1⟩:=k.BA;rw[c.vf,h1];simp[Op.equalIn,bJ hu]
    .obtain⟨p,q,_,_,h1⟩:=c.BA;rw[k.vf,h1];simp[Op.equalIn,bJ hu]
    .obtain⟨p,q,h1⟩:=k.BB;rw[c.vf,h1];simp[Op.equalIn,bJ hu]
    obtain⟨p,q,h1⟩:=c.BB;rw[k.vf,h1];simp[Op.equalIn,bJ hu]
   .injection h with h;subst h;unfold cQ at he;split at he<;>(try(rename_i m;cases m;done))<;>(try(cases he;done))
    .split at he;·injection he with he;subst he;rw[c.zA,k.zA];simp[Op.equalIn,bJ hu]
     cases he
    .injection he with he;subst he;obtain⟨p,_,h1⟩:=k.vc;rw[c.zA,h1];simp[Op.equalIn,bJ hu]
    .injection he with he;subst he;obtain⟨p,_,h1⟩:=c.vc;rw[k.zA,h1];simp[Op.equalIn,bJ hu]
    rename_i t1 _ O _ _;split at he;·cases he
    rename_i L;injection he with he;subst he;obtain⟨p,_,rfl⟩:=c.vc;obtain⟨q,_,rfl⟩:=k.vc;have:¬t1=O:=λe=>L (by subst e;exact agB _);simp only[Op.equalIn,Sem.run_bind,bJ hu,Result.andThen_ok,ne_eq,this,not_false_eq_true,bf,Sem.run_pure]
   .split at h;·cases h
    rename_i cD;rw[adN]at h;obtain⟨l,hl,rfl⟩:=h;unfold cQ at he;split at he<;>(try(rename_i m;cases m;done))<;>(try(cases he;done));rename_i A;cases A;obtain⟨I,B,rfl⟩:=c.pa;obtain⟨J,C,rfl⟩:=k.pa;have D:=congrArg (λ(o:Option TypeDesc)=>match o with|some (.struct V)=>V|_=> #[]) hu;change P.fieldsOf t=_ at D;rw[run_equalIn_struct w n t I J (by rw[hu,D]) (by simpa using cD),D];exact JM N B C n w E _ _ _ _ hl he
   .split at h;·rename_i d s a hd hs W;injection h with h;subst h;unfold cQ at he;split at he<;>(try(rename_i m;cases m;done))<;>(try(cases he;done));rename_i A;cases A;obtain⟨I,B,rfl⟩:=c.pa;obtain⟨J,C,rfl⟩:=k.pa;obtain⟨X,F,M⟩:=Jx hs;rw[run_equalIn_array w n I J hu F];have G:=congrArg (λ(o:Option TypeInfo)=>(o.map (·.size)).getD 0) F;change P.cellsOf _=_ at G;rw[G,show(Option.map (λi:TypeInfo=>i.size) (some X)).getD 0=s from M];exact JN N B C n w E hd hs W _ _ _ he
    cases h
   cases h
end
section
variable{P:Program}{b:bS}{ρ:aO}{H H':ah}{w:World}{nt:Nat}{aa:ak AV}{a:Act}{o:Oper}{ao:bE}{v:AV}
def FI(P:Program)(ρ:aO)(em:Bool)(f:Nat):Prop:=∀{const:Bool}{t:TypeId}{d:cZ},hZ P f const t=some d->∀{g:Nat}{x:AV},mO g d x=true->
 ∀{c:Value},VR ρ x c->∀(n:Nat)(w:World),f<=n->(Instr.checkKey em n t c).run P w=.ok () w
theorem JO{em:Bool}{f:Nat}(k:FI P ρ em f){m:List AV}{q:Array Value}(t:aQ ρ m q.toList)(n:Nat)(w:World)(u:f<=n):∀(h:List Field)(l:List (Nat×Nat×Bool×cZ))(g:Nat),(h.mapM λ(g:Field)=>if g.name= "_" then none else match hZ P f false g.type,dZ P g.type,lL P g.type with|some d,some s,some a=>some (g.offset,s,a,d)|_,_,_=>none)=some l->mO.go g m l=true->(forIn h PUnit.unit λ(f:Field)r=>(if f.name≠ "_" then(do(Instr.checkKey em n f.type (<-part f.type q f.offset));pure (ForInStep.yield PUnit.unit))else pure (ForInStep.yield PUnit.unit):Sem (ForInStep PUnit))).run P w=.ok PUnit.unit w
 |[],l,g,h1,h2=>by simp
 |D::h,l,g,h1,h2=>by
  simp only[ag5,acC,aaU,aeO,aaM]at h1;obtain⟨p,c,z,i,rfl⟩:=h1;split at c;·cases c
  rename_i e;split at c
  .rename_i d s a hd hs A;injection c with c;subst c;cases g with
   |zero=>simp[mO.go]at h2
   |succ g=>
    simp only[mO.go]at h2;split at h2;·rename_i x j;simp only[ae9]at h2;obtain⟨E,B,C⟩:=ri (P:=P) (w:=w) t A hs j;have h3:=k hd h2.1 C n w u;have y:=JO k t n w u h z g i h2.2;simp only[List.forIn_cons,Sem.run_bind,ne_eq,e,not_false_eq_true,bf,B,h3,Result.andThen_ok,Sem.run_pure]at y⊢;exact y
    cases h2
  cases c
theorem JP{em:Bool}{f:Nat}(h:FI P ρ em f){j:List AV}{k:Array Value}(l:aQ ρ j k.toList)(n:Nat)(w:World)(m:f<=n){e:TypeId}{s:Nat}{a:Bool}{d:cZ}(hd:hZ P f false e=some d)(hs:dZ P e=some s)(p:lL P e=some a):∀(is:List Nat)(g:Nat),mO.go g j (is.map λi=>(i*s,s,a,d))=true->(forIn is PUnit.unit λ(i:Nat)r=>(do(Instr.checkKey em n e (<-part e k (i*(<-sizeOf e))));pure (ForInStep.yield PUnit.unit):Sem (ForInStep PUnit))).run P w=.ok PUnit.unit w
 |[],g,h2=>by simp
 |i::is,g,h2=>by
  cases g with
  |zero=>simp[mO.go]at h2
  |succ g=>
   simp only[afp,mO.go]at h2;split at h2;·rename_i x c;simp only[ae9]at h2;obtain⟨y,t,u⟩:=ri (P:=P) (w:=w) l p hs c;have h3:=h hd h2.1 u n w m;have q:=JP h l n w m hd hs p is g h2.2;simp only[List.forIn_cons,Sem.run_bind,gU hs,t,h3,Result.andThen_ok,Sem.run_pure]at q⊢;exact q
   cases h2
theorem QR(ρ:aO)(em:Bool)(f:Nat):FI P ρ em f:=by
 induction f with
 |zero=>intro const t d h;simp[hZ]at h
 |succ f m=>
  intro const t d h g x he u p n w y;cases n with
  |zero=>omega
  |succ n=>
   have i:f<=n:=ab;unfold hZ at h;split at h;all_goals(rename_i hu)
   .simp[Instr.checkKey,bJ hu]
   .simp[Instr.checkKey,bJ hu]
   .simp[Instr.checkKey,bJ hu]
   .simp[Instr.checkKey,bJ hu]
   .simp[Instr.checkKey,bJ hu]
   .simp[Instr.checkKey,bJ hu]
   .simp[Instr.checkKey,bJ hu]
   .injection h with h;subst h;unfold mO at he;cases x<;>cases he
   .split at h;·cases h
    rw[adN]at h;obtain⟨l,hl,rfl⟩:=h;unfold mO at he;split at he<;>(try(rename_i k;cases k;done))<;>(try(cases he;done));rename_i c;cases c;obtain⟨q,e,rfl⟩:=p.pa;have j:=JO m e n w i _ _ _ hl he;simp only[Instr.checkKey,Sem.run_bind,bJ hu,Result.andThen_ok,<-Array.forIn_toList];rw[j];rfl
   .split at h;·rename_i d s a hd hs r;injection h with h;subst h;unfold mO at he;split at he<;>(try(rename_i k;cases k;done))<;>(try(cases he;done));rename_i c;cases c;obtain⟨q,e,rfl⟩:=p.pa;have j:=JP m e n w i hd hs r _ _ he;simp only[Instr.checkKey,Sem.run_bind,bJ hu,Result.andThen_ok];simp only[Std.Legacy.Range.forIn_eq_forIn_range',Std.Legacy.Range.size,ahg,Nat.add_one_sub_one,Nat.div_one];rw[List.range_eq_range']at j;rw[j];rfl
    cases h
   cases h
theorem FJ{t:TypeId}{d:cZ}(h:oV P t=some d):∃kd,P.underlying t=some kd/\hZ P 16 false t=some d/\((kd=.bool/\d=.bool)\/(∃k,kd=.int k/\d=.int)\/(kd=.string/\d=.str)\/∃l,d=.dA l):=by
 unfold oV at h;split at h;all_goals(try(cases h;done))
 all_goals(rename_i hu;refine⟨_,hu,h,?_⟩)
 all_goals unfold hZ at h;simp only[hu]at h
 .injection h with h;exact .inr (.inl ⟨_,rfl,h.symm⟩)
 .injection h with h;exact .inr (.inr (.inl ⟨rfl,h.symm⟩))
 .injection h with h;exact .inl ⟨rfl,h.symm⟩
 .split at h;·cases h
  rw[adN]at h;obtain⟨l,_,h⟩:=h;exact .inr (.inr (.inr ⟨l,h.symm⟩))
 split at h;·injection h with h;exact .inr (.inr (.inr ⟨_,h.symm⟩))
 cases h
theorem FK{t:TypeId}{kd:TypeDesc}(hu:P.underlying t=some kd)(c:kd=.bool\/(∃k,kd=.int k)\/kd=.string)(em:Bool)(n:Nat)(x:Value)(w:World):(Instr.checkKey em (n+1) t x).run P w=.ok () w:=by rcases c with rfl|⟨k,rfl⟩|rfl<;>simp[Instr.checkKey,bJ hu]
theorem BI{t:TypeId}{d:cZ}(h:oV P t=some d){k:AV}(c:gG d k=true){kv:Value}(e:VR ρ k kv)(em:Bool)(w:World):(Instr.checkKey em 10000 t kv).run P w=.ok () w:=by
 obtain⟨kd,hu,he,hd⟩:=FJ h;rcases hd with⟨rfl,rfl⟩|⟨f,rfl,rfl⟩|⟨rfl,rfl⟩|⟨l,rfl⟩;·exact FK hu (.inl rfl) em 9999 kv w
 .exact FK hu (.inr (.inl ⟨_,rfl⟩)) em 9999 kv w
 .exact FK hu (.inr (.inr rfl)) em 9999 kv w
 exact QR ρ em 16 he c e 10000 w ab
def FR(ρ:aO)(n:Nat):Option (Nat×AV)->Option (Nat×Value)->Prop
 |none,none=>True
 |some (i,v),some (j,c)=>i=j/\VR ρ v c/\i<n
 |_,_=>False
theorem JQ{t:TypeId}{d:cZ}(h:hZ P 16 false t=some d){k:AV}{kv:Value}(g:VR ρ k kv)(w:World):∀(es:List aT)(bk:List MapEntry)(i:Nat)(r:Option (Nat×AV)),bh ρ es bk->findKey d k es i=some r->∃f,(Instr.findAsking t kv bk i).run P w=.ok f w/\FR ρ (i+es.length) r f
 |[],[],i,r,_,h2=>by simp only[findKey,aaM]at h2;subst h2;exact⟨none,by simp[Instr.findAsking],trivial⟩
 |e::es,c::bk,i,r,h1,h2=>by
  simp only[bh]at h1;simp only[findKey]at h2;split at h2;·rename_i he;injection h2 with h2;subst h2;have:=BH ρ 16 h he g h1.1 10000 w ab;refine⟨some (i,c.val),?_,rfl,h1.2.1,aF⟩;simp only[Instr.findAsking,Op.equal,Op.maxDepth,Sem.run_bind,this,Result.andThen_ok,bf,Sem.run_pure]
  .rename_i he;have:=BH ρ 16 h he g h1.1 10000 w ab;obtain⟨f,j,l⟩:=JQ h g w es bk (i+1) r h1.2.2.2 h2;refine⟨f,?_,by rw[afB,show i+(es.length+1)=i+1+es.length by omega];exact l⟩;simp only[Instr.findAsking,Op.equal,Op.maxDepth,Sem.run_bind,this,Result.andThen_ok,abe,bD,j]
  cases h2
 |[],_::_,_,_,h1,_=>by simp[bh]at h1
 |_::_,[],_,_,h1,_=>by simp[bh]at h1
theorem QS{t:TypeId}{kd:TypeDesc}(hu:P.underlying t=some kd){x y:Value}{d:Bool}(h:Instr.sameNow kd x y=some d)(n:Nat)(w:World):(Op.equalIn (n+1) t x y).run P w=.ok d w:=by
 unfold Instr.sameNow at h;split at h
 .split at h;·rename_i c;injection h with h;subst c;subst h;simp[Op.equalIn,bJ hu]
  cases h
 .injection h with h;subst h;simp[Op.equalIn,bJ hu]
 .injection h with h;subst h;simp[Op.equalIn,bJ hu]
 cases h
theorem JR{t:TypeId}{kd:TypeDesc}(hu:P.underlying t=some kd){d:cZ}(h:hZ P 16 false t=some d){k:AV}{kv:Value}(j:VR ρ k kv)(w:World):∀(es:List aT)(bk:List MapEntry)(i:Nat)(r:Option (Nat×AV))(f:Option (Nat×Value)),bh ρ es bk->findKey d k es i=some r->Instr.findNow kd kv bk i=some f->FR ρ (i+es.length) r f
 |[],[],i,r,f,_,h2,h3=>by simp only[findKey,aaM]at h2;subst h2;simp only[Instr.findNow,aaM]at h3;subst h3;trivial
 |e::es,c::bk,i,r,f,h1,h2,h3=>by
  simp only[bh]at h1;simp only[findKey]at h2;simp only[Instr.findNow]at h3;have BJ:∀s g,cQ 64 d k e.key=some s->Instr.sameNow kd kv c.key=some g->s=g:=by intro s g l m;have n:=BH ρ 16 h l j h1.1 10000 w ab;have p:=QS hu m 9999 w;have q:=n.symm.trans p;injection q
  split at h2
  .rename_i he;injection h2 with h2;subst h2;split at h3;·injection h3 with h3;subst h3;exact⟨rfl,h1.2.1,aF⟩
   .rename_i hs;have:=BJ _ _ he hs;cases this
   cases h3
  .rename_i he;split at h3;·rename_i hs;have:=BJ _ _ he hs;cases this
   .have:=JR hu h j w es bk (i+1) r f h1.2.2.2 h2 h3;rw[afB,show i+(es.length+1)=i+1+es.length by omega];exact this
   cases h3
  cases h2
 |[],_::_,_,_,_,h1,_,_=>by simp[bh]at h1
 |_::_,[],_,_,_,h1,_,_=>by simp[bh]at h1
theorem qk{t:TypeId}{d:cZ}(h:oV P t=some d){k:AV}{kv:Value}(f:VR ρ k kv)(w:World){es:List aT}{bk:List MapEntry}(he:bh ρ es bk){r:Option (Nat×AV)}(g:findKey d k es 0=some r):∃c,(Instr.findKey t kv bk).run P w=.ok c w/\FR ρ es.length r c:=by obtain⟨kd,hu,i,_⟩:=FJ h;cases e:Instr.findNow kd kv bk 0 with|some c=>have:=JR hu i f w es bk 0 r c he g e;rw[afC]at this;exact⟨c,by simp[Instr.findKey,bJ hu,e],this⟩|none=>obtain⟨c,l,j⟩:=JQ i f w es bk 0 r he g;rw[afC]at j;exact⟨c,by simp[Instr.findKey,bJ hu,e,l],j⟩
theorem JS{s t:ByteArray}(h:ir (s.data.toList.map agW) (t.data.toList.map agW)=true):s=t:=by rw[rh]at h;exact ByteArray.ext (Array.toList_inj.1 (FB (eq_of_beq h)))
theorem QT{a i:AV}(h:ED a i=true){x y:Value}(c:VR ρ a x)(d:VR ρ i y):x=y:=by
 unfold ED at h;split at h;·rw[c.nW,d.nW,eq_of_beq h]
 .simp only[ae9]at h;obtain⟨e,h1,rfl⟩:=c.ie;obtain⟨f,h2,rfl⟩:=d.ie;have:=afo h.1;have:=sX (h1.symm.trans (this.trans h2));have h3:=h.2;rw[eT]at h3;rw[this,eq_of_beq h3]
 .obtain⟨t1,h1,rfl⟩:=c.kJ;obtain⟨g,h2,rfl⟩:=d.kJ;subst h1;subst h2;rw[JS h]
 cases h
theorem JT:∀{l m:List AV},uM l m=true->∀{x y:List Value},aQ ρ l x->aQ ρ m y->x=y|[],[],_,[],[],_,_=>rfl|a::l,e::m,h,c::x,d::y,h1,h2=>by simp only[uM,ae9]at h;simp only[aQ]at h1 h2;rw[QT h.1 h1.1 h2.1,JT h.2 h1.2 h2.2]|[],_::_,h,_,_,_,_=>by simp[uM]at h|_::_,[],h,_,_,_,_=>by simp[uM]at h|[],[],_,_::_,_,h,_=>by simp[aQ]at h|[],[],_,[],_::_,_,h=>by simp[aQ]at h|_::_,_::_,_,[],_,h,_=>by simp[aQ]at h|_::_,_::_,_,_::_,[],_,h=>by simp[aQ]at h
theorem FL{t:TypeId}{d:cZ}(h:oV P t=some d){k:AV}{kv:Value}(p:VR ρ k kv):∀{es:List aT}{bk:List MapEntry}(i0 i:Nat)(v:AV),bh ρ es bk->findKey d k es i0=some (some (i0+i,v))->qY d k es i=true->∃c,bk[i]?=some c/\c.key=kv
 |[],[],i0,i,v,_,m,_=>by simp[findKey]at m
 |e::es,c::bk,i0,i,v,h1,m,hs=>by
  simp only[bh]at h1;simp only[findKey]at m;cases i with
  |zero=>
   refine⟨c,rfl,?_⟩;split at m
   .rename_i he;obtain⟨kd,hu,n,hd⟩:=FJ h;rcases hd with⟨rfl,rfl⟩|⟨G,rfl,rfl⟩|⟨rfl,rfl⟩|⟨l,rfl⟩;·unfold cQ at he;split at he<;>(try(rename_i n _;cases n;done))<;>(try(cases he;done));rename_i g;have f:=h1.1;rw[g]at f;injection he with he;rw[f.nW,p.nW,eq_of_beq he]
    .unfold cQ at he;split at he<;>(try(rename_i n _;cases n;done))<;>(try(cases he;done));rename_i g;have f:=h1.1;rw[g]at f;split at he;·rename_i s;injection he with he;rw[eT]at he;obtain⟨I,q,rfl⟩:=p.ie;obtain⟨J,r,u⟩:=f.ie;have:=sX (q.symm.trans (s.trans r));rw[u,this,eq_of_beq he]
     cases he
    .unfold cQ at he;split at he<;>(try(rename_i n _;cases n;done))<;>(try(cases he;done));rename_i g;have f:=h1.1;rw[g]at f;injection he with he;obtain⟨t1,q,rfl⟩:=p.kJ;obtain⟨K,r,u⟩:=f.kJ;subst q;subst r;rw[u,JS he]
    simp only[qY]at hs;split at hs;·rename_i L M s z;have f:=h1.1;rw[z]at f;obtain⟨x,A,q⟩:=p.pa;obtain⟨y,B,r⟩:=f.pa;have:=JT hs A B;rw[q,r,Array.toList_inj.1 this]
    .cases hs
    rename_i h2 _;exact(h2 _ rfl).elim
   .exfalso;have:∀(es:List aT)(j i:Nat)(v:AV),findKey d k es j=some (some (i,v))->j<=i:=by
     intro es;induction es with
     |nil=>intro j i v h;simp[findKey]at h
     |cons e es C=>
      intro j i v h;simp only[findKey]at h;split at h;·simp only[aaM,abS]at h;omega
      .have:=C _ _ _ h;omega
      cases h
    have:=this _ _ _ _ m;omega
   cases m
  |succ i=>
   split at m;·simp only[aaM,abS]at m;omega
   .obtain⟨D,E,F⟩:=FL h p (i0+1) i v h1.2.2.2 (by rw[m];simp;omega) hs;exact⟨D,by simpa using E,F⟩
   cases m
 |[],_::_,_,_,_,h1,_,_=>by simp[bh]at h1
 |_::_,[],_,_,_,h1,_,_=>by simp[bh]at h1
end
section
variable{P:Program}{b:bS}{ρ:aO}{H H':ah}{w:World}{nt:Nat}{aa:ak AV}{a:Act}{o:Oper}{ao:bE}{v:AV}
def _root_.Go.Value.nY:Value->Bool
 |.int .. |.float .. |.complex .. |.string .. =>false
 |_=>true
def AV.nY:AV->Bool
 |.int .. |.str .. |.b9=>false
 |_=>true
theorem VR.nY{x:AV}{c:Value}(h:VR ρ x c)(k:x.nY=true):c.nY=true:=by cases x<;>cases c<;>first|(simp[VR]at h;done)|rfl|(simp[AV.nY]at k;done)
theorem QU{x y:Value}(c:x.nY=true)(t:TypeId):binOp .eql t x y=(do pure (.bool (<-Op.equal t x y))):=by cases x<;>first|(simp[Value.nY]at c;done)|(cases y<;>rfl)
theorem QV{x y:Value}(c:x.nY=true)(t:TypeId):binOp .neq t x y=(do pure (.bool (!(<-Op.equal t x y)))):=by cases x<;>first|(simp[Value.nY]at c;done)|(cases y<;>rfl)
theorem QW{g:Nat}{d:cZ}{x y:AV}{r:Bool}(h:cQ g d x y=some r)(h1:d≠.int)(h2:d≠.str):x.nY=true:=by unfold cQ at h;split at h<;>first|rfl|(exact absurd rfl h1)|(exact absurd rfl h2)|(cases h;done)
theorem FM{g:Nat}{d:cZ}{x y:AV}{r:Bool}(h:cQ g d x y=some r):x.bC=true/\y.bC=true:=by unfold cQ at h;split at h<;>first|exact⟨rfl,rfl⟩|(cases h;done)
theorem JU{f:Nat}{c:Bool}{t:TypeId}{d:cZ}(h:hZ P f c t=some d):(d=.int->∃k,P.underlying t=some (.int k))/\(d=.str->P.underlying t=some .string)/\(∀g e,d=.iface g e->g=c/\∃i,P.underlying t=some (.interface i)/\e=i.isEmpty):=by
 cases f with
 |zero=>simp[hZ]at h
 |succ f=>
  unfold hZ at h;split at h;all_goals(try(cases h;done))
  all_goals(rename_i hu)
  all_goals(try(injection h with h;subst h))
  all_goals(try(refine⟨λe=>?_,λe=>?_,λg m e=>?_⟩))
  all_goals(try(first|(cases e;done)|exact⟨_,hu⟩|exact hu))
  .split at h;·injection h with h;subst h;cases e
   cases h
  .split at h;·injection h with h;subst h;cases e
   cases h
  .split at h;·injection h with h;subst h;cases e
   cases h
  .injection e with j l;exact⟨j.symm,_,hu,l.symm⟩
  .split at h;·cases h
   rw[adN]at h;obtain⟨_,_,h⟩:=h;subst h;cases e
  .split at h;·cases h
   rw[adN]at h;obtain⟨_,_,h⟩:=h;subst h;cases e
  .split at h;·cases h
   rw[adN]at h;obtain⟨_,_,h⟩:=h;subst h;cases e
  .split at h;·injection h with h;subst h;cases e
   cases h
  .split at h;·injection h with h;subst h;cases e
   cases h
  split at h;·injection h with h;subst h;cases e
  cases h
theorem QX{t:TypeId}{c:Array (String×TypeId)}(h:P.underlying t=some (.interface c))(n:Nat)(w:World):(Op.eqGuardIn (n+1) t .nilIface .nilIface).run P w=.ok (!c.isEmpty) w:=by simp only[Op.eqGuardIn,Sem.run_bind,bJ h,Result.andThen_ok,Sem.run_pure]
theorem QY{op:BinOp}{t:TypeId}{x y:Operand}{i m:AV}{j k:Value}(n:VR ρ i j)(p:VR ρ m k){g f:Nat}{d:cZ}{r:Bool}(hd:hZ P f (nS x||nS y) t=some d)(hg:uV P d t=true)(he:cQ g d i m=some r)(w:World):(eqGuard op t x y j k).run P w=.ok () w:=by
 have h0:op=.eql\/op=.neq\/(eqGuard op t x y j k).run P w=.ok () w:=by cases op<;>first|exact .inl rfl|exact .inr (.inl rfl)|exact .inr (.inr (by simp[eqGuard]))
 have h1:op=.eql\/op=.neq->(eqGuard op t x y j k)=eqGuard .eql t x y j k:=by rintro(rfl|rfl)<;>rfl
 have key:(eqGuard .eql t x y j k).run P w=.ok () w:=by
  unfold eqGuard;simp only[afP,abe,bD,pure_bind];split
  .have h1:i=.nilIface:=by have c:=(FM he).1;cases i<;>first|rfl|(simp[AV.bC]at c;done)|(simp[VR]at n)
   have h2:m=.nilIface:=by have c:=(FM he).2;cases m<;>first|rfl|(simp[AV.bC]at c;done)|(simp[VR]at p)
   subst h1;subst h2;unfold cQ at he;split at he<;>(try(rename_i c;cases c;done))<;>(try(rename_i c _;cases c;done))<;>(try(cases he;done));split at he
   .rename_i e;obtain⟨u,z,A,B⟩:=(JU hd).2.2 _ _ rfl;subst u;have q:z.isEmpty=true->(Op.eqGuardIn Op.maxDepth t .nilIface .nilIface).run P w=.ok false w:=λs=>by have:=QX A 9999 w;rw[s]at this;exact this
    rw[B]at e;clear h0 h1 hd hg he n p;cases x<;>cases y<;>simp[nS]at e⊢<;>simp[q (by simpa using e)]
   cases he
  .obtain⟨C,h1⟩:∃l,i=.agg l:=by have c:=(FM he).1;cases i<;>first|exact⟨_,rfl⟩|(simp[AV.bC]at c;done)|(simp[VR]at n)
   subst h1;have:P.eqGuardType P.depth t=false:=by cases d with|dA l=>simpa[uV]using hg|_=>exfalso;clear h0 h1 hd hg n p;cases g<;>simp[cQ]at he
   simp[this]
  simp
 rcases h0 with h|h|h;·rw[h1 (.inl h)];exact key
 .rw[h1 (.inr h)];exact key
 exact h
theorem QZ(h:cO P b ρ H w nt aa a){op:BinOp}{t:TypeId}{x y:Operand}{p:TypeId}(B:o.op=.binOp op t x y p){neg:Bool}{d:cZ}{u z:aL}(c:op=if neg then .neq else .eql)(hd:hZ P 16 (nS x||nS y) t=some d)(hg:uV P d t=true)(h1:eC P nt x=some u)(h2:eC P nt y=some z)(m:∀k,P.underlying t≠some (.int k))(n:P.underlying t≠some .string)(he:aD (.eq neg d u z) aa H=some (v,H')):bt P b ρ w (execOp a.eval o) v H':=by
 have j:=h.gv h1;have A:=h.gv h2;simp only[aD,adN,abS]at he;obtain⟨q,⟨r,l,rfl⟩,rfl,rfl⟩:=he;have i:=JU hd;have f:=VR.nY j (QW l (λe=>by obtain⟨k,i⟩:=i.1 e;exact m k i) (λe=>n (i.2.1 e)));have g:=BH ρ 16 hd l j A 10000 w ab;have s:=QY (op:=op) (P:=P) j A hd hg l w;refine bt.val (c:=.bool (r !=neg)) (w':=w) ?_ (bZ.bN h.I (by simp[VR]));simp only[execOp,B,Sem.run_bind,s,Result.andThen_ok];cases neg;·simp only[abe,bD]at c;subst c;rw[QU f];simp only[Op.equal,Op.maxDepth,Sem.run_bind,g,Result.andThen_ok,Sem.run_pure,Bool.bne_false]
 simp only[bf]at c;subst c;rw[QV f];simp only[Op.equal,Op.maxDepth,Sem.run_bind,g,Result.andThen_ok,Sem.run_pure,Bool.bne_true]
theorem bh.iu{k v:AV}{kv d:Value}(f:VR ρ k kv)(g:VR ρ v d):∀{es:List aT}{bk:List MapEntry}(i:Nat),bh ρ es bk->bh ρ (iu v k es i) (bk.modify i λe=>{e with key:=kv,val:=d})|[],[],i,_=>by cases i<;>simp[Go.al.iu,bh]|e::es,c::bk,0,h=>by simp only[bh]at h;simp only[Go.al.iu,List.modify_zero_cons,bh];exact⟨f,g,h.2.2.1,h.2.2.2⟩|e::es,c::bk,i+1,h=>by simp only[bh]at h;simp only[Go.al.iu,List.modify_succ_cons,bh];exact⟨h.1,h.2.1,h.2.2.1,bh.iu f g i h.2.2.2⟩|[],_::_,_,h=>by simp[bh]at h|_::_,[],_,h=>by simp[bh]at h
theorem bh.JV{v:AV}{d:Value}(f:VR ρ v d):∀{es:List aT}{bk:List MapEntry}(i:Nat),bh ρ es bk->bh ρ (es.modify i λe=>{e with val:=v}) (bk.modify i λe=>{e with val:=d})|[],[],i,_=>by cases i<;>simp[bh]|e::es,c::bk,0,h=>by simp only[bh]at h;simp only[List.modify_zero_cons,bh];exact⟨h.1,f,h.2.2.1,h.2.2.2⟩|e::es,c::bk,i+1,h=>by simp only[bh]at h;simp only[List.modify_succ_cons,bh];exact⟨h.1,h.2.1,h.2.2.1,bh.JV f i h.2.2.2⟩|[],_::_,_,h=>by simp[bh]at h|_::_,[],_,h=>by simp[bh]at h
theorem bh.push{k v:AV}{kv d:Value}(n:Nat)(f:VR ρ k kv)(g:VR ρ v d):∀{es:List aT}{bk:List MapEntry},bh ρ es bk->bh ρ (es++[⟨k,v,n⟩]) (bk++[{key:=kv,val:=d,born:=n}])|[],[],_=>by simp[bh,f,g]|e::es,c::bk,h=>by simp only[bh]at h;simp only[agb,bh];exact⟨h.1,h.2.1,h.2.2.1,bh.push n f g h.2.2.2⟩|[],_::_,h=>by simp[bh]at h|_::_,[],h=>by simp[bh]at h
theorem bh.erase:∀{es:List aT}{bk:List MapEntry}(i:Nat),bh ρ es bk->bh ρ (mN es i) (bk.eraseIdx i)|[],[],i,_=>by cases i<;>simp[mN,bh]|e::es,c::bk,0,h=>by simp only[bh]at h;simp only[mN,List.eraseIdx_cons_zero];exact h.2.2.2|e::es,c::bk,i+1,h=>by simp only[bh]at h;simp only[mN,List.eraseIdx_cons_succ,bh];exact⟨h.1,h.2.1,h.2.2.1,bh.erase i h.2.2.2⟩|[],_::_,_,h=>by simp[bh]at h|_::_,[],_,h=>by simp[bh]at h
theorem bh.qX:∀{es:List aT}{bk:List MapEntry}(i:Nat),i<es.length->bh ρ es bk->∃c,bk[i]?=some c/\c.born=qX es i|[],_,i,hi,_=>by simp at hi|e::es,c::bk,0,_,h=>by simp only[bh]at h;exact⟨c,rfl,h.2.2.1.symm⟩|e::es,c::bk,i+1,hi,h=>by simp only[bh]at h;exact bh.qX (es:=es) i (by simpa using hi) h.2.2.2|_::_,[],_,_,h=>by simp[bh]at h
theorem bh.ma(t:Nat):∀{es:List aT}{bk:List MapEntry}(i0 i:Nat),bh ρ es bk->ma t es i0=some i->i0<=i/\bk.findIdx? (λe=>(e.born:Int)==(t:Int))=some (i - i0)/\∃e c,es[i - i0]?=some e/\bk.find? (λe=>e.born==t)=some c/\VR ρ e.key c.key/\VR ρ e.val c.val
 |[],_,_,_,_,h=>by simp[Go.al.ma]at h
 |e::es,c::bk,i0,i,h,f=>by
  simp only[bh]at h;simp only[Go.al.ma]at f;split at f
  .rename_i hb;have hb:=afo hb;injection f with f;subst f;have g:c.born=t:=by rw[<-h.2.2.1];exact hb
   refine⟨adv _,by simp[List.findIdx?_cons,g],e,c,aF,by simp[g],h.1,h.2.1⟩
  rename_i hb;have hb:¬e.born=t:=λq=>hb (by rw[q];exact agB _);have g:¬c.born=t:=by rw[<-h.2.2.1];exact hb
  have j:¬(c.born:Int)=(t:Int):=ab;obtain⟨s,k,l,m,n,p,r⟩:=bh.ma t (i0+1) i h.2.2.2 f;refine⟨ab,?_,l,m,?_,?_,r⟩
  .have d:((c.born:Int)==(t:Int))=false:=by simpa using j
   rw[List.findIdx?_cons,d,k];simp only[abe,bD,afL,aaM];omega
  .rw[show i - i0=(i - (i0+1))+1 by omega];simpa using n
  have d:(c.born==t)=false:=by simpa using g
  rw[List.find?_cons,d];exact p
 |_::_,[],_,_,h,_=>by simp[bh]at h
theorem vm{i:Nat}(w:World){d:Obj}(h:w.heap[i]?=some d)(g:∀c e f,d≠.cells c e f)(o:Obj):(setObj i o).run P w=.ok () {w with heap:=w.heap.setIfInBounds i o}:=by
 have hl:i<w.heap.size:=by
  rcases afZ i w.heap.size with hl|hl;·exact hl
  simp[afU hl]at h
 cases d with|cells c e f=>exact absurd rfl (g c e f)|_=>simp only[setObj,Sem.run,h]
theorem map_set(h:bj P b ρ H w){id:af}{es:List aT}{c:Nat}(f:H.get id=.map es c){m:Nat}(hb:ρ id=some (m,0)){es':List aT}{ces':Array MapEntry}(he:bh ρ es' ces'.toList)(d:Nat)(dF:ic ces' d){w1:World}(i:w1.heap=w.heap)(j:w1.os=w.os)(k:w1.tape=w.tape)(l:w1.output=w.output):∃w',(setObj m (.map ces' d)).run P w1=.ok () w'/\bj P b ρ (H.set id (.map es' d)) w'/\cX b w w':=by
 have g:H.get id≠.none:=by rw[f];simp
 obtain⟨bk,e,_⟩:=nX h f hb;refine⟨_,vm w1 (by rw[i];exact e) (λ_ _ _=>by simp) _,?_⟩;have:=h.nV (i:=id) (o':=.map es' d) (ob':=.map ces' d) g (by rw[f];rfl) hb rfl (by simp only[OR];exact⟨trivial,trivial,dF,he⟩) (by simp[dI]) (w':={w1 with heap:=w1.heap.setIfInBounds m (.map ces' d)}) (by simp only[i]) j k l;rw[f]at this;exact this
theorem JW(k:Value)(w:World):∃c,(Instr.keyThatStays k k).run P w=.ok k c/\c.heap=w.heap/\c.os=w.os/\c.tape=w.tape/\c.output=w.output:=by
 unfold Instr.keyThatStays;split;·exact⟨w,aF,rfl,rfl,rfl,rfl⟩
 cases d:(Question.extern "map.whichKeyStays" 2).forced;·exact⟨w.drew,by simp[d],rfl,rfl,rfl,rfl⟩
 exact⟨w,by simp[d],rfl,rfl,rfl,rfl⟩
end
section
variable{P:Program}{b:bS}{ρ:aO}{H H':ah}{w:World}{nt:Nat}{aa:ak AV}{a:Act}{v:AV}
theorem bj.congr(h:bj P b ρ H w){c:ah}(d:c.next=H.next)(hg:∀j,c.get j=H.get j):bj P b ρ c w:=⟨λi hi=>by rw[hg]at hi⊢;exact h.cI i hi,λi j k x y e hi hj=>by rw[hg]at hi hj;rw[hg,hg];exact h.jh i j k x y e hi hj,λi j hi=>by rw[hg]at hi⊢;rw[d];exact h.aM i j hi,λi k x hi f=>by rw[hg]at hi f;exact h.wr i k x hi f,λi hi=>by rw[d]at hi;rw[hg];exact h.cS i hi,h.new,h.jV,λi k x g hi=>by rw[hg]at hi⊢;exact h.iw i k x g hi,h.dO,λi k x hi=>by rw[hg]at hi;exact h.rd i k x hi,λi hi=>by rw[hg,d];exact⟨(h.un i hi).1,(h.un i hi).2.1,λj=>by rw[hg];exact(h.un i hi).2.2 j⟩,h.di⟩
theorem FN{w:World}{d:Nat}{c:Obj}(h:w.heap[d]?=some c):w.heap.setIfInBounds d c=w.heap:=by
 apply ag6;intro i;rw[afA];split
 .rename_i e;subst e;split;·exact h.symm
  rename_i hl;rw[afU ab]
 rfl
theorem bj.FO(h:bj P b ρ H w){i:af}{d:bL}(hi:H.get i≠.none)(j:(H.get i).jg=false)(k:(H.get i).aM=[])(f:d.aM=[])(l:∀x c,OR P ρ (H.get i) x c->OR P ρ d x c/\∀q,dI P q d c):bj P b ρ (H.set i d) w:=by obtain⟨m,x,c,e,hl,hb,g⟩:=h.bm hi;obtain⟨h1,h2⟩:=l x c g;have:=(h.nV (w':=w) hi j e f h1 (h2 _) (by rw[FN hb]) rfl rfl rfl).1;rw[k]at this;exact this
def aT.kv(e:aT):AV×AV:=(e.key,e.val)
theorem bV.cJ{es:List aT}{l m:List MapEntry}(j:l.Perm m):bV ρ es l->∃c,c.Perm es/\bV ρ c m:=by
 induction j generalizing es with
 |nil=>intro h;exact⟨es,ahe _,h⟩
 |cons x _ k=>intro h;cases es with|nil=>simp[bV]at h|cons e es=>simp only[bV]at h;obtain⟨c,p,q⟩:=k h.2.2;exact⟨e::c,p.cons e,by simp only[bV];exact⟨h.1,h.2.1,q⟩⟩
 |swap x y r=>intro h;match es,h with|[],h=>simp[bV]at h|[_],h=>simp[bV]at h|i::d::es,h=>simp only[bV]at h;exact⟨d::i::es,agm ..,by simp only[bV];exact⟨h.2.2.1,h.2.2.2.1,h.1,h.2.1,h.2.2.2.2⟩⟩
 |trans _ _ f g=>intro h;obtain⟨i,p1,n⟩:=f h;obtain⟨d,p2,o⟩:=g n;exact⟨d,p2.trans p1,o⟩
theorem bV.zE{es d:List aT}(i:es.Perm d):∀{l:List MapEntry},bV ρ es l->∃e,e.Perm l/\bV ρ d e:=by
 induction i with
 |nil=>intro l h;exact⟨l,ahe _,h⟩
 |cons x _ j=>intro l h;cases l with|nil=>simp[bV]at h|cons c l=>simp only[bV]at h;obtain⟨e,p,q⟩:=j h.2.2;exact⟨c::e,p.cons c,by simp only[bV];exact⟨h.1,h.2.1,q⟩⟩
 |swap x y r=>intro l h;match l,h with|[],h=>simp[bV]at h|[_],h=>simp[bV]at h|c1::c2::l,h=>simp only[bV]at h;exact⟨c2::c1::l,agm ..,by simp only[bV];exact⟨h.2.2.1,h.2.2.2.1,h.1,h.2.1,h.2.2.2.2⟩⟩
 |trans _ _ f g=>intro l h;obtain⟨o,p1,k⟩:=f h;obtain⟨m,p2,n⟩:=g k;exact⟨m,p2.trans p1,n⟩
theorem bV.kv:∀{es f:List aT}{m:List MapEntry},es.map aT.kv=f.map aT.kv->bV ρ es m->bV ρ f m
 |[],[],m,_,h=>h
 |e::es,g::f,m,d,h=>by simp only[afp,afM,aT.kv,abS]at d;cases m with|nil=>simp[bV]at h|cons c m=>simp only[bV]at h⊢;rw[<-d.1.1,<-d.1.2];exact⟨h.1,h.2.1,bV.kv d.2 h.2.2⟩
 |[],_::_,_,d,_=>by simp at d
 |_::_,[],_,d,_=>by simp at d
def s9:List aT->List MapEntry->List aT
 |e::es,c::m=>{e with born:=c.born}::s9 es m
 |_,_=>[]
theorem bV.exact:∀{es:List aT}{m:List MapEntry},bV ρ es m->bh ρ (s9 es m) m/\(s9 es m).map aT.kv=es.map aT.kv|[],[],_=>by simp[s9,bh]|e::es,c::m,h=>by simp only[bV]at h;obtain⟨h1,h2⟩:=bV.exact h.2.2;simp only[s9,bh,afp,h2];exact⟨⟨h.1,h.2.1,by trivial,h1⟩,by rfl⟩|[],_::_,h=>by simp[bV]at h|_::_,[],h=>by simp[bV]at h
theorem bh.open:∀{es:List aT}{m:List MapEntry},bh ρ es m->bV ρ es m|[],[],_=>by simp[bV]|e::es,c::m,h=>by simp only[bh]at h;simp only[bV];exact⟨h.1,h.2.1,bh.open h.2.2.2⟩|[],_::_,h=>by simp[bh]at h|_::_,[],h=>by simp[bh]at h
theorem JX(h:bj P b ρ H w){id:af}{es:List aT}(g:H.get id=.co es):∃(d i:List aT)(c:Nat),d.Perm es/\i.map aT.kv=d.map aT.kv/\bj P b ρ (H.set id (.map i c)) w:=by obtain⟨k,x,j,e,hl,hb,f⟩:=h.bm (i:=id) (by rw[g];simp);rw[g]at f;cases j<;>simp only[OR]at f;rename_i bk c;obtain⟨rfl,dF,l,h1,h2⟩:=f;obtain⟨d,p1,p2⟩:=bV.cJ h1 h2;obtain⟨p3,p4⟩:=bV.exact p2;refine⟨d,s9 d bk.toList,c,p1,p4,?_⟩;have:=(h.nV (i:=id) (o':=.map (s9 d bk.toList) c) (ob':=.map bk c) (w':=w) (by rw[g];simp) (by rw[g];rfl) e rfl (by simp only[OR];exact⟨trivial,trivial,dF,p3⟩) (by simp[dI]) (by rw[FN hb]) rfl rfl rfl).1;rw[g]at this;exact this
theorem zF(h:bj P b ρ H w){id:af}{esx es es':List aT}{d:Nat}(e:H.get id=.map esx d)(f:es'.Perm es)(g:esx.map aT.kv=es'.map aT.kv):bj P b ρ (H.set id (.co es)) w:=by refine h.FO (by rw[e];simp) (by rw[e];rfl) (by rw[e];rfl) rfl ?_;intro x i c;rw[e]at c;cases i<;>simp only[OR]at c⊢;obtain⟨rfl,rfl,dF,h3⟩:=c;obtain⟨l,p1,p2⟩:=bV.zE f (bV.kv g (bh.open h3));exact⟨⟨by trivial,dF,l,p1,p2⟩,λq=>by simp[dI]⟩
theorem JY{d:cZ}{k:AV}:∀{es c:List aT},es.map aT.kv=c.map aT.kv->dL.go d k es=dL.go d k c|[],[],_=>rfl|e::es,f::c,h=>by simp only[afp,afM,aT.kv,abS]at h;simp only[dL.go,JY h.2,h.1.1,h.1.2]|[],_::_,h=>by simp at h|_::_,[],h=>by simp at h
theorem Q0{d:cZ}{k:AV}{es c:List aT}(h:es.Perm c):dL.go d k es=dL.go d k c:=by
 induction h with
 |nil=>rfl
 |cons x _ g=>simp only[dL.go,g]
 |swap x y r=>
  simp only[dL.go];cases h1:cQ 64 d k x.key with
  |none=>cases h2:cQ 64 d k y.key with|none=>simp|some i=>cases i<;>simp
  |some q=>cases h2:cQ 64 d k y.key with|none=>cases q<;>simp|some i=>cases h3:dL.go d k r with|none=>cases q<;>cases i<;>simp|some r=>cases r<;>cases q<;>cases i<;>simp
 |trans _ _ e f=>exact e.trans f
theorem JZ{d:cZ}{k v:AV}:∀{es c:List aT},es.map aT.kv=c.map aT.kv->(jJ d k v es).map aT.kv=(jJ d k v c).map aT.kv
 |[],[],_=>rfl
 |e::es,f::c,h=>by
  simp only[afp,afM,aT.kv,abS]at h;have:jI d k e=jI d k f:=by simp only[jI,h.1.1]
  simp only[jJ,afp,JZ h.2,this,afM,and_true];split;·rfl
  simp only[aT.kv,h.1.1,h.1.2]
 |[],_::_,h=>by simp at h
 |_::_,[],h=>by simp at h
theorem BK{d:cZ}{k:AV}:∀{es c:List aT},es.map aT.kv=c.map aT.kv->(ko d k es).map aT.kv=(ko d k c).map aT.kv
 |[],[],_=>rfl
 |e::es,f::c,h=>by
  have h0:=h;simp only[afp,afM,aT.kv,abS]at h;have:jI d k e=jI d k f:=by simp only[jI,h.1.1]
  simp only[ko,this];split;·exact BK h.2
  simp only[afp,BK h.2,afM,and_true];simp only[aT.kv,h.1.1,h.1.2]
 |[],_::_,h=>by simp at h
 |_::_,[],h=>by simp at h
theorem J4(d:cZ)(k v:AV)(es:List aT):jJ d k v es=es.map λe=>if jI d k e then{e with key:=k,val:=v}else e:=by induction es with|nil=>rfl|cons e es c=>simp only[jJ,afp,c]
theorem J5(d:cZ)(k:AV)(es:List aT):ko d k es=es.filter λe=>!jI d k e:=by induction es with|nil=>rfl|cons e es c=>simp only[ko,List.filter_cons,c];cases jI d k e<;>simp
theorem Q1(d:cZ)(k v:AV){es c:List aT}(h:es.Perm c):(jJ d k v es).Perm (jJ d k v c):=by rw[J4,J4];exact h.map _
theorem J6(d:cZ)(k:AV){es c:List aT}(h:es.Perm c):(ko d k es).Perm (ko d k c):=by rw[J5,J5];exact h.filter _
theorem vn{d:cZ}{k v:AV}:∀{es:List aT},dL.go d k es=some none->jJ d k v es=es/\ko d k es=es/\∀i,findKey d k es i=some none
 |[],_=>⟨rfl,rfl,λ_=>rfl⟩
 |e::es,h=>by
  simp only[dL.go]at h;split at h;·cases h
  .rename_i r h1 h2;injection h with h;subst h;obtain⟨c,f,g⟩:=vn (v:=v) h2;have:jI d k e=false:=by simp[jI,h1]
   exact⟨by simp[jJ,this,c],by simp[ko,this,f],λi=>by simp[findKey,h1,g]⟩
  cases h
theorem BL{d:cZ}{k v x:AV}:∀{es:List aT},dL.go d k es=some (some x)->∀i0,∃i,findKey d k es i0=some (some (i0+i,x))/\i<es.length/\iu v k es i=jJ d k v es/\mN es i=ko d k es
 |[],h,_=>by simp[dL.go]at h
 |e::es,h,i0=>by
  simp only[dL.go]at h;split at h
  .rename_i h1 h2;injection h with h;injection h with h;subst h;obtain⟨c,f,_⟩:=vn (v:=v) h2;have:jI d k e=true:=by simp[jI,h1]
   refine⟨0,by simp[findKey,h1],aF,?_,?_⟩;·simp only[iu,jJ,this,bf,c]
   simp only[mN,ko,this,bf,f]
  .rename_i r h1 h2;injection h with h;subst h;obtain⟨i,c,f,g,j⟩:=BL (v:=v) h2 (i0+1);have:jI d k e=false:=by simp[jI,h1]
   refine⟨i+1,by simp only[findKey,h1,c];congr 3;omega,by simpa using f,?_,?_⟩;·simp[iu,jJ,this,g]
   simp[mN,ko,this,j]
  cases h
theorem FP{d:cZ}(hd:lH d=true)(k:AV):∀(es:List aT)(i:Nat),i<es.length->qY d k es i=true
 |[],i,h=>by simp at h
 |e::es,0,_=>by cases d<;>first|rfl|(simp[lH]at hd)
 |e::es,i+1,h=>by simp only[qY];exact FP hd k es i (by simpa using h)
def bE.J7:bE->Option aL
 |.lookup _ _ _ m _|.iP _ m _ _|.delete _ m _=>some m
 |_=>none
def ta(aa:ak AV)(H:ah)(ao:bE):Prop:=∀c id es,ao.J7=some c->gv aa c=.map id->H.get id≠.co es
theorem FQ{s:Sem Next}{ao:bE}(o:∀{M H1:ah}{v:AV},bj P b ρ M w->ta aa M ao->aD ao aa M=some (v,H1)->bt P b ρ w s v H1)(R:bj P b ρ H w)(he:aD ao aa H=some (v,H')):bt P b ρ w s v H':=by
 by_cases N:ta aa H ao;·exact o R N he
 simp only[ta,Classical.not_forall,not_imp,ne_eq,agJ]at N;obtain⟨O,id,es,B,C,J⟩:=N;obtain⟨E,g,f,G,I,t⟩:=JX R J;have u:ta aa (H.set id (.map g f)) ao:=by intro ag av F h1 h2;rw[B]at h1;injection h1 with h1;subst h1;rw[C]at h2;injection h2 with h2;subst h2;rw[ah.aC,aJ rfl];simp
 have hg:(H.set id (.map g f)).get id=.map g f:=by rw[ah.aC,aJ rfl]
 have m:∀{v:AV}{esy es1 F:List aT}{c:Nat}{H1 K:ah},bt P b ρ w s v H1->H1.get id=.map esy c->(∀j,j≠id->H1.get j=H.get j)->H1.next=H.next->es1.Perm F->esy.map aT.kv=es1.map aT.kv->K.get id=.co F->(∀j,j≠id->K.get j=H.get j)->K.next=H.next->bt P b ρ w s v K:=by
  intro v esy es1 F c H1 K S T V W X Y Z g7 g8;obtain⟨q,w',hr,Q,x1,x2,x3,x4⟩:=S;refine⟨q,w',hr,Q,x1,x2,(zF x3 T X Y).congr (by rw[g8];exact W.symm) ?_,x4⟩;intro j;rw[ah.aC];by_cases e:j=id;·subst e;rw[aJ rfl,Z]
  rw[ap e,V j e,g7 j e]
 have p:∀d k,dL d k es=dL d k g:=by
  intro d k;unfold dL;split;·rw[<-Q0 G,<-JY I]
  rfl
 have l:∀{d:cZ}{k:AV}{r:Option AV},dL d k g=some r->lH d=true/\dL.go d k g=some r:=by
  intro d k r h;unfold dL at h;split at h;·exact⟨by assumption,h⟩
  cases h
 cases ao<;>simp only[bE.J7,aaM,reduceCtorEq]at B;all_goals subst B
 case lookup d z ok O k=>
  simp only[aD]at he;split at he;·cases he
  rename_i n;simp only[C,J,p]at he;split at he;·rename_i x D;obtain⟨h1,h2⟩:=l D;obtain⟨i,A,_⟩:=BL (v:=x) h2 0;simp only[aaM,abS]at he;obtain⟨rfl,rfl⟩:=he;refine m (o t u (v:=if ok=true then .tuple [x,.bool true]else x) (H1:=H.set id (.map g f)) ?_) hg (λj hj=>by rw[ah.aC,ap hj]) rfl G I J (λ_ _=>rfl) rfl;simp only[aD,C,hg,A,n,abe,bD]
  .rename_i D;obtain⟨h1,h2⟩:=l D;obtain⟨_,_,A⟩:=vn (v:=z) h2;simp only[aaM,abS]at he;obtain⟨rfl,rfl⟩:=he;refine m (o t u (v:=if ok=true then .tuple [z,.bool false]else z) (H1:=H.set id (.map g f)) ?_) hg (λj hj=>by rw[ah.aC,ap hj]) rfl G I J (λ_ _=>rfl) rfl;simp only[aD,C,hg,A,n,abe,bD]
  cases he
 case iP d O k x=>
  simp only[aD]at he;split at he;·cases he
  rename_i n;simp only[C,J,p]at he;split at he;·rename_i y D;obtain⟨h1,h2⟩:=l D;obtain⟨i,A,L,f3,_⟩:=BL (v:=gv aa x) h2 0;simp only[aaM,abS]at he;obtain⟨rfl,rfl⟩:=he;refine m (esy:=iu (gv aa x) (gv aa k) g i) (es1:=jJ d (gv aa k) (gv aa x) E) (c:=f) (o t u (v:=.ahp) (H1:=(H.set id (.map g f)).set id (.map (iu (gv aa x) (gv aa k) g i) f)) ?_) (by rw[ah.aC,aJ rfl]) (λj hj=>by rw[ah.aC,ap hj,ah.aC,ap hj]) rfl (Q1 d _ _ G) (by rw[f3];exact JZ I) (by rw[ah.aC,aJ rfl]) (λj hj=>by rw[ah.aC,ap hj]) rfl;simp only[aD,C,hg,A,n,abe,bD,afC,FP h1 _ _ _ L,bf]
  .rename_i D;obtain⟨h1,h2⟩:=l D;obtain⟨_,_,A⟩:=vn (v:=gv aa x) h2;simp only[aaM,abS]at he;obtain⟨rfl,rfl⟩:=he;refine m (esy:=g++[⟨gv aa k,gv aa x,f⟩]) (es1:=E++[⟨gv aa k,gv aa x,0⟩]) (c:=f+1) (o t u (v:=.ahp) (H1:=(H.set id (.map g f)).set id (.map (g++[⟨gv aa k,gv aa x,f⟩]) (f+1))) ?_) (by rw[ah.aC,aJ rfl]) (λj hj=>by rw[ah.aC,ap hj,ah.aC,ap hj]) rfl (G.append_right _) (by simp[I,aT.kv]) (by rw[ah.aC,aJ rfl]) (λj hj=>by rw[ah.aC,ap hj]) rfl;simp only[aD,C,hg,A,n,abe,bD]
  cases he
 case delete d O k=>
  simp only[aD]at he;split at he;·cases he
  rename_i n;simp only[C,J,p]at he;split at he;·rename_i r D;obtain⟨h1,h2⟩:=l D;simp only[aaM,abS]at he;obtain⟨rfl,rfl⟩:=he;cases r with|some y=>obtain⟨i,A,L,_,f4⟩:=BL (v:=gv aa k) h2 0;refine m (esy:=mN g i) (es1:=ko d (gv aa k) E) (c:=f) (o t u (v:=.ahp) (H1:=(H.set id (.map g f)).set id (.map (mN g i) f)) ?_) (by rw[ah.aC,aJ rfl]) (λj hj=>by rw[ah.aC,ap hj,ah.aC,ap hj]) rfl (J6 d _ G) (by rw[f4];exact BK I) (by rw[ah.aC,aJ rfl]) (λj hj=>by rw[ah.aC,ap hj]) rfl;simp only[aD,C,hg,A,n,abe,bD,afC]|none=>obtain⟨_,L,A⟩:=vn (v:=gv aa k) h2;refine m (esy:=g) (es1:=ko d (gv aa k) E) (c:=f) (o t u (v:=.ahp) (H1:=(H.set id (.map g f)).set id (.map g f)) ?_) (by rw[ah.aC,aJ rfl]) (λj hj=>by rw[ah.aC,ap hj,ah.aC,ap hj]) rfl (J6 d _ G) (by rw[<-BK I,L]) (by rw[ah.aC,aJ rfl]) (λj hj=>by rw[ah.aC,ap hj]) rfl;simp only[aD,C,hg,A,n,abe,bD]
  cases he
end
section
variable{P:Program}{b:bS}{ρ:aO}{H H':ah}{w:World}{nt:Nat}{aa:ak AV}{a:Act}{o:Oper}{ao:bE}{v:AV}
theorem Q2(h:cO P b ρ H w nt aa a){t:TypeId}{m k:Operand}{ok:Bool}(C:o.op=.lookup t m k ok)(f:bG P nt o=some ao)(R:ta aa H ao)(he:aD ao aa H=some (v,H')):bt P b ρ w (execOp a.eval o) v H':=by
 simp only[bG,C,acC,aaU]at f;obtain⟨d,hd,f⟩:=f;split at f
 .rename_i V e;simp only[aaU,aeO,aaM]at f;obtain⟨kd,l,z,S,W,h1,M,h2,rfl⟩:=f;obtain⟨zv,A,B,T⟩:=qj S;have D:=h.gv h1;have E:=h.gv h2;simp only[aD]at he;split at he;·cases he
  rename_i q;have q:gG kd (gv aa M)=true:=by simpa using q
  have r:=λem w=>BI l q E em (P:=P) w;have g:∀{c:Value},VR ρ z c->VR ρ (if ok=true then .tuple [z,.bool false]else z) (if ok=true then .tuple #[c,.bool false]else c):=by
   intro c f;cases ok;·exact f
   simp[VR,aQ,f]
  have s:∀{x:AV}{c:Value},VR ρ x c->VR ρ (if ok=true then .tuple [x,.bool true]else x) (if ok=true then .tuple #[c,.bool true]else c):=by
   intro x c f;cases ok;·exact f
   simp[VR,aQ,f]
  split at he
  .rename_i F;simp only[aaM,abS]at he;obtain⟨rfl,rfl⟩:=he;rw[F]at D;have G:=D.qi;obtain⟨n,u,y⟩:=qk (P:=P) l E w (es:=[]) (bk:=[]) (by simp[bh]) (r:=none) rfl;have J:n=none:=by cases n<;>simp_all[FR]
   subst J;refine bt.val (c:=if ok=true then .tuple #[zv,.bool false]else zv) (w':=w) ?_ (bZ.bN h.I (g (B ρ)));simp only[execOp,C,Instr.lookup,Sem.run_bind,bJ hd,Result.andThen_ok,G,Sem.run_pure,r,u,A]
  .rename_i id F;rw[F]at D;obtain⟨X,hb,G⟩:=D.lO;split at he
   .rename_i es N K;obtain⟨bk,O,Q⟩:=nX h.I K hb;split at he
    .rename_i i x L;simp only[aaM,abS]at he;obtain⟨rfl,rfl⟩:=he;obtain⟨n,u,y⟩:=qk (P:=P) l E w Q L;obtain⟨⟨j,c⟩,rfl⟩:∃p,n=some p:=by cases n with|none=>simp[FR]at y|some p=>exact⟨p,rfl⟩
     simp only[FR]at y;refine bt.val (c:=if ok=true then .tuple #[c,.bool true]else c) (w':=w) ?_ (bZ.bN h.I (s y.2.1));simp only[execOp,C,Instr.lookup,Sem.run_bind,bJ hd,Result.andThen_ok,G,Sem.run_pure,r,u,lj O]
    .rename_i L;simp only[aaM,abS]at he;obtain⟨rfl,rfl⟩:=he;obtain⟨n,u,y⟩:=qk (P:=P) l E w Q L;have J:n=none:=by cases n<;>simp_all[FR]
     subst J;refine bt.val (c:=if ok=true then .tuple #[zv,.bool false]else zv) (w':=w) ?_ (bZ.bN h.I (g (B ρ)));simp only[execOp,C,Instr.lookup,Sem.run_bind,bJ hd,Result.andThen_ok,G,Sem.run_pure,r,u,lj O,A]
    cases he
   .rename_i es K;exact absurd K (R _ _ _ rfl F)
   cases he
  cases he
 cases f
theorem Q3(h:cO P b ρ H w nt aa a){t:TypeId}{m k:Operand}{ok:Bool}(c:o.op=.lookup t m k ok)(d:bG P nt o=some ao)(he:aD ao aa H=some (v,H')):bt P b ρ w (execOp a.eval o) v H':=FQ (λe f he=>Q2 ⟨h.E,e⟩ c d f he) h.I he
theorem bt.skip{s:Sem Next}{w':World}(h:s.run P w=.ok .skip w')(c:bZ P b ρ w v H' undef w'):bt P b ρ w s v H':=⟨undef,w',.inr ⟨h,rfl⟩,c⟩
theorem FT{n i:Nat}{x:AV}{d:Option (Nat×Value)}(h:FR ρ n (some (i,x)) d):∃c,d=some (i,c)/\VR ρ x c/\i<n:=by cases d with|none=>simp[FR]at h|some p=>obtain⟨j,c⟩:=p;simp only[FR]at h;obtain⟨rfl,h2,h3⟩:=h;exact⟨c,rfl,h2,h3⟩
theorem FU{n:Nat}{c:Option (Nat×Value)}(h:FR ρ n none c):c=none:=by cases c with|none=>rfl|some p=>simp[FR]at h
theorem Q4(h:cO P b ρ H w nt aa a){t:TypeId}{m k x:Operand}(l:o.op=.mapUpdate t m k x\/o.op=.insert t m k x)(n:bG P nt o=some ao)(V:ta aa H ao)(he:aD ao aa H=some (v,H')):bt P b ρ w (execOp a.eval o) v H':=by
 have M:∃d,eY P t=some d/\∃E e,d=.map E e/\∃kd,oV P E=some kd/\∃u,eC P nt m=some u/\∃g,eC P nt k=some g/\∃p,eC P nt x=some p/\ao=.iP kd u g p:=by rcases l with l|l<;>simp only[bG,l,acC,aaU]at n<;>obtain⟨d,hd,n⟩:=n<;>refine⟨d,hd,?_⟩<;>split at n<;>(try(cases n;done))<;>simp only[aaU,aeO,aaM]at n<;>obtain⟨kd,j,u,h1,g,h2,p,h3,W⟩:=n<;>exact⟨_,_,rfl,kd,j,u,h1,g,h2,p,h3,W.symm⟩
 obtain⟨d,hd,E,e,rfl,kd,j,u,h1,g,h2,p,h3,rfl⟩:=M;have z:(execOp a.eval o)=(do Instr.mapUpdate t (a.eval m) (a.eval k) (a.eval x);pure .skip):=by rcases l with l|l<;>simp only[execOp,l]
 have O:=h.gv h1;have s:=h.gv h2;have Q:=h.gv h3;simp only[aD]at he;split at he;·cases he
 rename_i r;have r:gG kd (gv aa g)=true:=by simpa using r
 have A:=λem w=>BI j r s em (P:=P) w;split at he
 .rename_i id R;rw[R]at O;obtain⟨ag,hb,S⟩:=O.lO;split at he
  .rename_i es f q;obtain⟨bk,C,y⟩:=nX h.I q hb;split at he
   .rename_i i X D;split at he;case isFalse=>cases he
    rename_i N;simp only[aaM,abS]at he;obtain⟨rfl,rfl⟩:=he;obtain⟨Y,F,G⟩:=qk (P:=P) j s w y D;obtain⟨c,rfl,f3,f4⟩:=FT G;obtain⟨ce,T,Z⟩:=FL j s 0 i X y (by rw[D,afC]) N;obtain⟨w1,r1,r2,r3,r4,r5⟩:=JW (P:=P) (a.eval k) w;obtain⟨w',J,K,L⟩:=map_set (P:=P) h.I q hb (es':=iu (gv aa p) (gv aa g) es i) (ces':=bk.modify i λe=>{e with key:=a.eval k,val:=a.eval x}) (by rw[Array.toList_modify];exact bh.iu s Q i y) f (ic.modify (sZ h.I q hb C) i (λ_=>rfl)) r2 r3 r4 r5;refine bt.skip (w':=w') ?_ ⟨ρ,bQ.refl ρ,VR.ahp ρ,K,L⟩;have B:((bk[i]?).map (·.key)).getD (a.eval k)=a.eval k:=by rw[aga]at T;rw[T];simpa using Z
    simp only[z,Instr.mapUpdate,Sem.run_bind,bJ hd,Result.andThen_ok,S,Sem.run_pure,A,F,lj C,B,r1,J]
   .rename_i D;simp only[aaM,abS]at he;obtain⟨rfl,rfl⟩:=he;obtain⟨Y,F,G⟩:=qk (P:=P) j s w y D;have:=FU G;subst this;obtain⟨w',J,K,L⟩:=map_set (P:=P) h.I q hb (es':=es++[⟨gv aa g,gv aa p,f⟩]) (ces':=bk.push {key:=a.eval k,val:=a.eval x,born:=f}) (by rw[Array.toList_push];exact bh.push f s Q y) (f+1) (ic.push (sZ h.I q hb C) rfl) (w1:=w) rfl rfl rfl rfl;refine bt.skip (w':=w') ?_ ⟨ρ,bQ.refl ρ,VR.ahp ρ,K,L⟩;simp only[z,Instr.mapUpdate,Sem.run_bind,bJ hd,Result.andThen_ok,S,Sem.run_pure,A,F,lj C,J]
   cases he
  .rename_i es q;exact absurd q (V _ _ _ rfl R)
  cases he
 cases he
theorem J8(h:cO P b ρ H w nt aa a){t:TypeId}{m k x:Operand}(c:o.op=.mapUpdate t m k x\/o.op=.insert t m k x)(d:bG P nt o=some ao)(he:aD ao aa H=some (v,H')):bt P b ρ w (execOp a.eval o) v H':=FQ (λe f he=>Q4 ⟨h.E,e⟩ c d f he) h.I he
theorem J9{d:cZ}{k:AV}:∀(es:List aT)(j i:Nat)(v:AV),findKey d k es j=some (some (i,v))->j<=i
 |[],j,i,v,h=>by simp[findKey]at h
 |e::es,j,i,v,h=>by
  simp only[findKey]at h;split at h;·simp only[aaM,abS]at h;omega
  .have:=J9 es _ _ _ h;omega
  cases h
theorem bh.J'{d:cZ}{k:AV}{kv:Value}(g:VR ρ k kv):∀{es:List aT}{bk:List MapEntry}(i0 i:Nat)(x:AV),bh ρ es bk->findKey d k es i0=some (some (i0+i,x))->bh ρ (Go.al.iu x k es i) (bk.modify i λe=>{e with key:=kv})
 |[],_,i0,i,x,_,f=>by simp[findKey]at f
 |e::es,c::bk,i0,i,x,h,f=>by
  simp only[bh]at h;simp only[findKey]at f;cases i with
  |zero=>
   simp only[Go.al.iu,List.modify_zero_cons,bh];split at f;·simp only[aaM,abS]at f;exact⟨g,by rw[<-f.2];exact h.2.1,h.2.2.1,h.2.2.2⟩
   .have:=J9 es _ _ _ f;omega
   cases f
  |succ i=>
   simp only[Go.al.iu,List.modify_succ_cons,bh];refine⟨h.1,h.2.1,h.2.2.1,?_⟩;split at f;·simp only[aaM,abS]at f;omega
   .exact bh.J' g (i0+1) i x h.2.2.2 (by rw[f,show i0+1+i=i0+(i+1)by omega])
   cases f
 |_::_,[],_,_,_,h,_=>by simp[bh]at h
theorem Q5(h:cO P b ρ H w nt aa a){t:TypeId}{m k:Operand}(D:o.op=.mapEntry t m k)(j:bG P nt o=some ao)(he:aD ao aa H=some (v,H')):bt P b ρ w (execOp a.eval o) v H':=by
 simp only[bG,D,acC,aaU]at j;obtain⟨d,hd,j⟩:=j;split at j
 .rename_i kt e;simp only[aaU,aeO,aaM]at j;obtain⟨kd,g,z,T,om,h1,l,h2,rfl⟩:=j;obtain⟨zv,M,y,ag⟩:=qj T;have O:=h.gv h1;have q:=h.gv h2;simp only[aD]at he;split at he;·cases he
  rename_i n;have n:gG kd (gv aa l)=true:=by simpa using n
  have A:=λem w=>BI g n q em (P:=P) w;split at he
  .rename_i id V;rw[V]at O;obtain⟨aw,hb,Q⟩:=O.lO;split at he
   .rename_i es f s;obtain⟨bk,C,r⟩:=nX h.I s hb;split at he
    .rename_i i E u;split at he;case isFalse=>cases he
     rename_i N;simp only[aaM,abS]at he;obtain⟨rfl,rfl⟩:=he;obtain⟨W,F,G⟩:=qk (P:=P) g q w r u;obtain⟨c,rfl,X,Y⟩:=FT G;obtain⟨ce,R,Z⟩:=FL g q 0 i E r (by rw[u,afC]) N;obtain⟨w1,r1,r2,r3,r4,r5⟩:=JW (P:=P) (a.eval k) w;rw[aga]at R;obtain⟨av,S,q4⟩:=bh.qX i Y r;rw[aga]at S;obtain⟨w',J,K,L⟩:=map_set (P:=P) h.I s hb (es':=iu E (gv aa l) es i) (ces':=bk.modify i λe=>{e with key:=a.eval k}) (by rw[Array.toList_modify];exact bh.J' q 0 i E r (by rw[u,afC])) f (ic.modify (sZ h.I s hb C) i (λ_=>rfl)) r2 r3 r4 r5;refine bt.val (c:=.tuple #[c,goInt (qX es i)]) (w':=w') ?_ ⟨ρ,bQ.refl ρ,?_,K,L⟩
     .have B:((bk[i]?).map (·.key)).getD (a.eval k)=a.eval k:=by rw[R];simpa using Z
      have p:((bk[i]?).map (λx=>(x.born:Int))).getD 0=(qX es i:Int):=by rw[S];simp[q4]
      simp only[execOp,D,Instr.mapEntry,Sem.run_bind,bJ hd,Result.andThen_ok,Q,Sem.run_pure,A,F,lj C,B,r1,J,p]
     simp only[VR,aQ];exact⟨X,VR.goInt ρ _,trivial⟩
    .rename_i u;simp only[aaM,abS]at he;obtain⟨rfl,rfl⟩:=he;obtain⟨W,F,G⟩:=qk (P:=P) g q w r u;have:=FU G;subst this;obtain⟨w',J,K,L⟩:=map_set (P:=P) h.I s hb (es':=es++[⟨gv aa l,z,f⟩]) (ces':=bk.push {key:=a.eval k,val:=zv,born:=f}) (by rw[Array.toList_push];exact bh.push f q (y ρ) r) (f+1) (ic.push (sZ h.I s hb C) rfl) (w1:=w) rfl rfl rfl rfl;refine bt.val (c:=.tuple #[zv,goInt f]) (w':=w') ?_ ⟨ρ,bQ.refl ρ,?_,K,L⟩;·simp only[execOp,D,Instr.mapEntry,Sem.run_bind,bJ hd,Result.andThen_ok,Q,Sem.run_pure,A,F,lj C,M,J]
     simp only[VR,aQ];exact⟨y ρ,VR.goInt ρ _,trivial⟩
    cases he
   cases he
  cases he
 cases j
theorem Q6(h:cO P b ρ H w nt aa a){t:TypeId}{m s x:Operand}(g:o.op=.entryStore t m s x)(j:bG P nt o=some ao)(he:aD ao aa H=some (v,H')):bt P b ρ w (execOp a.eval o) v H':=by
 simp only[bG,g,acC,aaU,aeO,aaM]at j;obtain⟨F,h1,os,h2,u,h3,rfl⟩:=j;have n:=h.gv h1;have p:=h.gv h2;have y:=h.gv h3;simp only[aD]at he;split at he
 .rename_i id k K z hs;rw[z]at n;rw[hs]at p;obtain⟨G,hb,A⟩:=n.lO;obtain⟨J,_,hi⟩:=p.ie;split at he
  .rename_i es c f;obtain⟨bk,q,r⟩:=nX h.I f hb;split at he
   .rename_i i B;simp only[aaM,abS]at he;obtain⟨rfl,rfl⟩:=he;obtain⟨_,d,_⟩:=bh.ma K 0 i r B;obtain⟨w',C,D,E⟩:=map_set (P:=P) h.I f hb (es':=es.modify i λe=>{e with val:=gv aa u}) (ces':=bk.modify i λe=>{e with val:=a.eval x}) (by rw[Array.toList_modify];exact bh.JV y i r) c (ic.modify (sZ h.I f hb q) i (λ_=>rfl)) (w1:=w) rfl rfl rfl rfl;refine bt.skip (w':=w') ?_ ⟨ρ,bQ.refl ρ,VR.ahp ρ,D,E⟩;have d:bk.findIdx? (λe=>(e.born:Int)==(K:Int))=some i:=by rw[ahg]at d;obtain⟨l⟩:=bk;simpa using d
    simp only[execOp,g,Instr.entryStore,Sem.run_bind,A,Sem.run_pure,Result.andThen_ok,lj q,hi,asInt,asIntOf,afm,d,C]
   cases he
  cases he
 cases he
theorem Q7(h:cO P b ρ H w nt aa a){c:Call}(O:o.op=.call c)(hb:c.callee=.builtin .delete)(j:bG P nt o=some ao)(Q:ta aa H ao)(he:aD ao aa H=some (v,H')):bt P b ρ w (execOp a.eval o) v H':=by
 simp only[bG,O,hb,acC,aaU]at j;obtain⟨t,B,d,hd,j⟩:=j;obtain⟨A,l⟩:=rj (P:=P) (a:=a) O hb w;split at j
 .rename_i V e;simp only[aaU,aeO,aaM]at j;obtain⟨kd,m,W,⟨R,L,h1⟩,M,⟨S,N,h2⟩,rfl⟩:=j;have s:=h.gv h1;have C:=h.gv h2;have n:(c.args.map a.eval)[0]?=some (a.eval R):=by simp[L]
  have p:(c.args.map a.eval)[1]?=some (a.eval S):=by simp[N]
  simp only[aD]at he;split at he;·cases he
  rename_i q;have q:gG kd (gv aa M)=true:=by simpa using q
  have r:=λem w=>BI m q C em (P:=P) w;split at he;·rename_i u;simp only[aaM,abS]at he;obtain⟨rfl,rfl⟩:=he;rw[u]at s;have x:=s.qi;refine bt.val (c:=.tuple #[]) (w':=w) ?_ (bZ.bN h.I (VR.ahp ρ));rw[l];simp only[builtin,Builtin.delete_,B,n,p,Sem.run_bind,bJ hd,Result.andThen_ok,x,r,Sem.run_pure]
  .rename_i id u;rw[u]at s;obtain⟨ag,f,x⟩:=s.lO;split at he
   .rename_i es g k;obtain⟨bk,y,z⟩:=nX h.I k f;split at he;·rename_i i X D;simp only[aaM,abS]at he;obtain⟨rfl,rfl⟩:=he;obtain⟨T,E,F⟩:=qk (P:=P) m C w z D;obtain⟨Y,rfl,Z,f4⟩:=FT F;obtain⟨w',G,J,K⟩:=map_set (P:=P) h.I k f (es':=mN es i) (ces':=bk.eraseIdxIfInBounds i) (by rw[Array.toList_eraseIdxIfInBounds];exact bh.erase i z) g (ic.erase (sZ h.I k f y) i) (w1:=w) rfl rfl rfl rfl;refine bt.val (c:=.tuple #[]) (w':=w') ?_ ⟨ρ,bQ.refl ρ,VR.ahp ρ,J,K⟩;rw[l];simp only[builtin,Builtin.delete_,B,n,p,Sem.run_bind,bJ hd,Result.andThen_ok,x,r,Sem.run_pure,lj y,E,G]
    .rename_i D;simp only[aaM,abS]at he;obtain⟨rfl,rfl⟩:=he;obtain⟨T,E,F⟩:=qk (P:=P) m C w z D;have:=FU F;subst this;obtain⟨w',G,J,K⟩:=map_set (P:=P) h.I k f (es':=es) (ces':=bk) z g (sZ h.I k f y) (w1:=w) rfl rfl rfl rfl;refine bt.val (c:=.tuple #[]) (w':=w') ?_ ⟨ρ,bQ.refl ρ,VR.ahp ρ,J,K⟩;rw[l];simp only[builtin,Builtin.delete_,B,n,p,Sem.run_bind,bJ hd,Result.andThen_ok,x,r,Sem.run_pure,lj y,E,G]
    cases he
   .rename_i es k;exact absurd k (Q _ _ _ rfl u)
   cases he
  cases he
 cases j
theorem Q8(h:cO P b ρ H w nt aa a){c:Call}(d:o.op=.call c)(hb:c.callee=.builtin .delete)(e:bG P nt o=some ao)(he:aD ao aa H=some (v,H')):bt P b ρ w (execOp a.eval o) v H':=FQ (λf g he=>Q7 ⟨h.E,f⟩ d hb e g he) h.I he
theorem Q9(h:cO P b ρ H w nt aa a){c:Call}(u:o.op=.call c)(hb:c.callee=.builtin .clear){x:aL}(r:ao=.uJ x)(f:bG P nt o=some ao)(he:aD ao aa H=some (v,H')):bt P b ρ w (execOp a.eval o) v H':=by
 simp only[bG,u,hb,acC,aaU]at f;obtain⟨t,y,d,hd,f⟩:=f;obtain⟨n,i⟩:=rj (P:=P) (a:=a) u hb w;split at f;·simp only[aaU,aeO,aaM]at f;obtain⟨_,_,_,_,f⟩:=f;rw[r]at f;cases f
 .rename_i F e;simp only[aaU,aeO,aaM]at f;obtain⟨G,⟨A,s,l⟩,rfl⟩:=f;have m:=h.gv l;have j:(c.args.map a.eval)[0]?=some (a.eval A):=by simp[s]
  simp only[aD]at he;split at he;·rename_i p;simp only[aaM,abS]at he;obtain⟨rfl,rfl⟩:=he;rw[p]at m;have q:=m.qi;refine bt.val (c:=.tuple #[]) (w':=w) ?_ (bZ.bN h.I (VR.ahp ρ));rw[i];simp[builtin,Builtin.clear_,y,j,bJ hd,q]
  .rename_i id p;rw[p]at m;obtain⟨K,k,q⟩:=m.lO;split at he;·rename_i es g z;simp only[aaM,abS]at he;obtain⟨rfl,rfl⟩:=he;obtain⟨bk,B,J⟩:=nX h.I z k;obtain⟨w',C,D,E⟩:=map_set (P:=P) h.I z k (es':=[]) (ces':= #[]) (by simp[bh]) g ic.clear (w1:=w) rfl rfl rfl rfl;refine bt.val (c:=.tuple #[]) (w':=w') ?_ ⟨ρ,bQ.refl ρ,VR.ahp ρ,D,E⟩;rw[i];simp only[builtin,Builtin.clear_,y,j,Sem.run_bind,bJ hd,Result.andThen_ok,q,lj B,C,Sem.run_pure]
   cases he
  cases he
 cases f
end
end
end Go.al
end
