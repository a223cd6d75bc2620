/- A part. No conditions. -/
import Derived.Test.YtodnahjlheaolaaGreatDoorA00
import GoSem.Core.Region
import Derived.Control
import Derived.Below
import Derived.Laws.IdiomCopy
import Derived.Laws.Cells
import GoSem.Dispatch
import Derived.Laws.StructEq
import Derived.Lib.ConvBytes
import Derived.Laws.BytesString
import Derived.Laws.AppendOwn
import Derived.ChangeKeysEq
import Derived.Laws.RangeString
import Derived.RangeFuncIn
import Derived.Orders
set_option linter.all false
open List renaming range->ahq
open Nat renaming beq->ahr,blt->ahO,ble->aih
open Int renaming ofNat->ah0
open Array renaming filter->aiL,range->ai7
open List.Perm renaming swap->ah5
open BitVec renaming ofInt->aik
open UInt8 renaming toNat->aiJ,ofNat->ai0
open List.Pairwise renaming nil->ai4
open Eq renaming mpr->ai5
noncomputable section
namespace Go.al
section
abbrev KT:=AV->ai->Prop
mutual
def jM:Value->Option AV
 |.bool b=>some (.bool b)
 |.int k n=>some (.int (kc k) n)
 |.string s=>some (.str (s.data.toList.map aiJ))
 |.pointer none=>some .j5
 |.slice none 0 0=>some .bj
 |.map none=>some .cP
 |.nilFunc=>some .nilFunc
 |.nilIface=>some .nilIface
 |.func (.func f) a b=>match sC a.toList,sC b.toList with
  |some a,some b=>some (.func f a b)
  |_,_=>none
 |.agg l=>(sC l.toList).map .agg
 |.tuple l=>(sC l.toList).map .tuple
 |.iface t v=>(jM v).map (.iface t)
 |_=>none
def sC:List Value->Option (List AV)
 |[]=>some []
 |v::l=>match jM v,sC l with
  |some v,some l=>some (v::l)
  |_,_=>none
end
variable(P:Program)(nt:Nat)
def fj:Operand->Option aJ
 |.tmp a=>if a<nt then some (.t (ah.cV a))else none
 |.const v=>(jM v).map .c
 |.global g=>if g<P.globals.size then some (.c (.aD (ah.cV g) 0))else none
 |.func f=>some (.c (.func f [] []))
def sD(l:Array Operand):Option (List aJ):=l.toList.mapM (fj P nt)
def pd:Option Operand->Option (Option aJ)
 |none=>some none
 |some x=>(fj P nt x).map some
def iK(t:TypeId):Option TypeInfo:=P.info? t
def gD(t:TypeId):Option TypeDesc:=P.underlying t
def eW(t:TypeId):Option Nat:=(P.info? t).map (·.size)
def ww(t:TypeId):Option Nat:=(P.info? t).map (·.bytes)
def nJ(t:TypeId):Option AV:=(P.info? t).bind λi=>i.zero.bind jM
def mO(t:TypeId):Option Bool:=(P.underlying t).map λd=>match d with|.struct _|.array _ _=>true|_=>false
def iA:(fuel:Nat)->(const:Bool)->TypeId->Option dB
 |0,_,_=>none
 |f+1,const,t=>
  match P.underlying t with
  |some .bool=>some .bool
  |some (.int _)=>some .int
  |some .string=>some .str
  |some (.pointer e)=>match eW P e with
   |some (_+1)=>some .aD
   |_=>none
  |some (.slice _)=>some .slice
  |some (.map ..)=>some .map
  |some (.func ..)=>some .func
  |some (.interface b)=>some (.iface const b.isEmpty)
  |some (.struct fs)=>
   if P.stoodInHeld t then none else
   (fs.toList.mapM λ(g:Field)=>if g.name= "_" then none else match iA f false g.type,eW P g.type,mO P g.type with
    |some d,some s,some a=>some (g.offset,s,a,d)
    |_,_,_=>none).map .dX
  |some (.array n e)=>match iA f false e,eW P e,mO P e with
   |some d,some s,some a=>some (.dX ((ahq n).map λi=>(i*s,s,a,d)))
   |_,_,_=>none
  |_=>none
def ru(t:TypeId):Option dB:=
 match P.underlying t with
 |some (.int _)|some .string|some .bool|some (.struct _)|some (.array ..)=>iA P 16 false t
 |_=>none
def wx(d:dB)(t:TypeId):Bool:=
 match d with
 |.dX _=>!P.eqGuardType P.depth t
 |_=>true
def pe:Operand->Bool
 |.const _=>true
 |_=>false
def bK(o:Oper):Option bJ:=do
 let g:=fj P nt
 match o.op with
 |.move x|.assign x=>return .bf (<-g x)
 |.pick c a b=>return .pick (<-g c) (<-g a) (<-g b)
 |.alloc e=>return .alloc e (<-nJ P e).cells
 |.box e x=>return .box e (<-g x)
 |.build t dX=>
  let r:=(<-nJ P t).cells
  match<-gD P t with
  |.struct fs=>
   let u<-fs.toList.mapM λ(f:Field)=>(eW P f.type).map λs=>(f.offset,s)
   let l<-dX.toList.mapM λ(p:Nat×Operand)=>(u[p.1]?).bind λq=>(g p.2).map λx=>(q.1,q.2,x)
   return .build r l
  |.array _ e=>
   let s<-eW P e
   let l<-dX.toList.mapM λ(p:Nat×Operand)=>(g p.2).map λx=>(p.1*s,s,x)
   return .build r l
  |_=>none
 |.buildSlice t len dX=>
  match<-gD P t with
  |.slice e=>
   let s<-eW P e
   let r:=(<-nJ P e).cells
   if r.length≠s\/s=0\/len*s>65536 then none else
   let l<-dX.toList.mapM λ(p:Nat×Operand)=>(g p.2).map λx=>(p.1*s,s,x)
   return .buildSlice e len r l
  |_=>none
 |.load t a=>if<-mO P t then return .ee (<-eW P t) (<-g a)else return .aW (<-g a)
 |.store t a x=>return .store (<-eW P t) (<-g a) (<-g x)
 |.nilCheck x=>return .nilCheck (<-g x)
 |.binOp op t x y _=>
  match op,<-gD P t with
  |.shl,.int _|.shr,.int _=>return .shift op (<-g x) (<-g y)
  |_,.int k=>return .arith op (kc k) (<-g x) (<-g y)
  |_,.string=>return .kw op (<-g x) (<-g y)
  |.eql,_=>
   let d<-iA P 16 (pe x||pe y) t
   if wx P d t then return .eq false d (<-g x) (<-g y)else none
  |.neq,_=>
   let d<-iA P 16 (pe x||pe y) t
   if wx P d t then return .eq true d (<-g x) (<-g y)else none
  |_,_=>none
 |.unOp op _ x=>return .unary op (<-g x)
 |.convert s d x=>
  match<-gD P s,<-gD P d with
  |.int _,.int k=>return .kx (kc k) (<-g x)
  |.slice e,.string=>if(<-gD P e)matches .int .u8 then return .oX (<-g x)else none
  |_,_=>none
 |.makeInterface t x=>if(<-gD P t)matches .interface _ then none else return .mI t (<-g x)
 |.makeFunc (.func f) a b=>return .k6 f (<-sD P nt a) (<-sD P nt b)
 |.makeMap _ none=>return .ky
 |.makeMap _ (some _)=>none
 |.makeSlice t l c=>
  match<-gD P t with
  |.slice e=>
   let s<-eW P e
   let r:=(<-nJ P e).cells
   if r.length≠s\/s=0 then none else return .mJ e (<-ww P e) s r (<-g l) (<-g c)
  |_=>none
 |.slice t x lo hi A=>
  match<-gD P t with
  |.slice e=>if A.isSome&&hi.isNone then none else
   let s<-eW P e
   if s=0 then none else return .gV e s (<-g x) (<-pd P nt lo) (<-pd P nt hi) (<-pd P nt A)
  |_=>none
 |.fieldAddr t x i=>
  match<-gD P t with
  |.struct fs=>
   let f<-fs[i]?
   if(<-eW P f.type)=0 then none else return .iX f.offset (<-g x)
  |_=>none
 |.field t x i=>
  match<-gD P t with
  |.struct fs=>
   let f<-fs[i]?
   return .part (<-mO P f.type) f.offset (<-eW P f.type) (<-g x)
  |_=>none
 |.indexAddr t x i=>
  match<-gD P t with
  |.array n e=>return .rh n (<-eW P e) (<-g x) (<-g i)
  |.slice e=>return .dH (<-eW P e) (<-g x) (<-g i)
  |_=>none
 |.index t x i=>
  match<-gD P t with
  |.string=>return .nH (<-g x) (<-g i)
  |_=>none
 |.lookup t m k ok=>
  match<-gD P t with
  |.map w e=>return .lookup (<-ru P w) (<-nJ P e) ok (<-g m) (<-g k)
  |_=>none
 |.mapUpdate t m k v|.insert t m k v=>
  match<-gD P t with
  |.map w _=>return .jK (<-ru P w) (<-g m) (<-g k) (<-g v)
  |_=>none
 |.range t x=>match<-gD P t with
  |.string=>return .pV (<-g x)
  |.map .. =>return .lX (<-g x)
  |_=>none
 |.entry z=>return .ri (<-g z)
 |.next z j=>if j then return .sA (<-g z)else return .j6 (<-g z)
 |.typeAssert x _ t ok=>if(<-gD P t)matches .interface _ then none else return .typeAssert t (<-nJ P t) ok (<-g x)
 |.extract x i=>return .extract (<-g x) i
 |.call c=>
  match c.callee with
  |.value f=>return .call (<-g f) (<-sD P nt c.args)
  |.builtin b=>
   let h(i:Nat):Option aJ:=(c.args[i]?).bind g
   match b with
   |.len=>match<-gD P (<-c.argTypes[0]?)with
    |.string=>return .mK (<-h 0)
    |.slice _=>return .iY (<-h 0)
    |.map .. =>return .uc (<-h 0)
    |_=>none
   |.cap=>match<-gD P (<-c.argTypes[0]?)with
    |.slice _=>return .cap (<-h 0)
    |_=>none
   |.append=>match<-gD P (<-c.argTypes[0]?)with
    |.slice e=>
     let s<-eW P e
     let r:=(<-nJ P e).cells
     if r.length≠s\/s=0\/c.args.size≠2 then none else
     let d<-gD P (<-c.argTypes[1]?)
     return .append e (<-ww P e) s r (d matches .int _) (<-h 0) (<-h 1)
    |_=>none
   |.copy=>match<-gD P (<-c.argTypes[0]?)with
    |.slice e=>return .copy (<-eW P e) (<-h 0) (<-h 1)
    |_=>none
   |.clear=>match<-gD P (<-c.argTypes[0]?)with
    |.slice e=>return .yF (<-nJ P e).cells (<-h 0)
    |_=>none
   |.delete=>match<-gD P (<-c.argTypes[0]?)with
    |.map w _=>return .delete (<-ru P w) (<-h 0) (<-h 1)
    |_=>none
   |.min=>return .oY false (<-sD P nt c.args)
   |.max=>return .oY true (<-sD P nt c.args)
   |_=>none
  |_=>none
 |_=>none
def bJ.jN:bJ->Bool
 |.store .. |.jK .. |.sA _|.j6 _|.lX _|.append .. |.copy .. |.yF .. |.delete .. |.call .. |.lY=>true
 |_=>false
def bJ.kP:bJ->Bool
 |.box .. |.alloc .. |.buildSlice .. |.ky|.mJ .. |.pV _=>true
 |_=>false
def bJ.iZ:bJ->Bool
 |.aW _|.ee .. |.lookup .. |.uc _|.oX _|.gV _ _ _ (some _) _ _=>true
 |_=>false
def bJ.plain:bJ->Bool
 |.bf _|.pick .. |.build .. |.nilCheck _|.arith .. |.shift .. |.kw .. |.eq .. |.unary .. |.kx .. |.mI .. |.k6 .. |.iX .. |.part .. |.rh .. |.dH ..
 |.nH .. |.typeAssert .. |.extract .. |.mK _|.iY _|.cap _|.oY .. |.gV _ _ _ none _ _=>true
 |_=>false
def aJ.co:aJ->List ah
 |.t p=>[p]
 |.c _=>[]
def AZ:Option aJ->List ah
 |some x=>x.co
 |none=>[]
def bJ.co:bJ->List ah
 |.bf x|.box _ x|.aW x|.ee _ x|.nilCheck x|.unary _ x|.kx _ x|.oX x|.mI _ x|.iX _ x|.part _ _ _ x|.pV x|.sA x|.lX x|.j6 x|.ri x
 |.typeAssert _ _ _ x|.extract x _|.mK x|.iY x|.uc x|.cap x|.yF _ x=>x.co
 |.pick c a b=>c.co++(a.co++b.co)
 |.alloc .. |.ky|.lY=>[]
 |.build _ d|.buildSlice _ _ _ d=>d.flatMap λp=>p.2.2.co
 |.store _ a x=>a.co++x.co
 |.arith _ _ x y|.shift _ x y|.kw _ x y|.eq _ _ x y|.rh _ _ x y|.dH _ x y|.nH x y|.lookup _ _ _ x y|.append _ _ _ _ _ x y|.copy _ x y|.delete _ x y|.mJ _ _ _ _ x y=>x.co++y.co
 |.k6 _ a b=>a.flatMap aJ.co++b.flatMap aJ.co
 |.gV _ _ x a b c=>x.co++(AZ a++(AZ b++AZ c))
 |.jK _ m k v=>m.co++(k.co++v.co)
 |.oY _ l=>l.flatMap aJ.co
 |.call f l=>f.co++l.flatMap aJ.co
def bD.ke(x:bD):List ah:=(match x.guard with|some (g,_)=>[g]|none=>[])++x.op.co
def wy:Op->Bool
 |.call c=>match c.callee with
  |.value _=>true
  |_=>false
 |_=>false
def bJ.yR:bJ->Bool
 |.call .. =>true
 |_=>false
def HI(o:Oper):Option (Option ah):=
 match o.dst with
 |some d=>if d<nt then some (some (ah.cV d))else none
 |none=>some none
def HJ(aA:Array Oper)(o:Oper):Option (Option (ah×Bool)):=
 match o.guard with
 |none=>some none
 |some (j,a)=>match(aA[j]?).bind (·.dst)with
  |some d=>if d<nt then some (some (ah.cV d,a))else none
  |none=>none
def pf(aA:Array Oper)(o:Oper):Option bD:=
 let pg:=(bK P nt o).getD .lY
 let op:=if pg.yR&&!wy o.op then .lY else pg
 match HI nt o,HJ nt aA o with
 |some dst,some guard=>some {dst,op,guard,iy:=[],re:=[]}
 |_,_=>none
def order(l:List bD)(b:Array Nat):(fuel:Nat)->(done:Nat)->List Nat->List Nat
 |0,_,a=>a.reverse
 |f+1,done,a=>
  let l6(i:Nat):Bool:=!done.testBit i&&((b.getD i 0)&&&done==b.getD i 0)
  let jN(i:Nat):Bool:=match l[i]? with|some o=>o.op.jN|none=>true
  let c:=(ahq l.length).filter l6
  match(c.find? λi=>!jN i)<|>c.head? with
  |some i=>order l b f (done|||2^i) (i::a)
  |none=>a.reverse
def yS(l:List bD)(a:Array Nat)(seen:List Nat)(i:Nat):List ah:=
 seen.filterMap λj=>match l[j]? with
  |some r=>if r.op.kP&&!(a.getD i 0).testBit j then r.dst else none
  |none=>none
def iZ(l:List bD)(a:Array Nat)(seen:List Nat)(i:Nat):List gN:=
 seen.filterMap λj=>match l[j]? with
  |some r=>if r.op.iZ&&!(a.getD i 0).testBit j then r.dst.map λd=>⟨d,r.op,r.guard⟩else none
  |none=>none
def DH(l:List bD)(a:Array Nat)(seen:List Nat)(i:Nat)(o:bD):bD:=
 {o with iy:=if o.op.jN||o.op.iZ then yS l a seen i else[],re:=if o.op.jN then iZ l a seen i else[]}
def ph(l:List bD)(a:Array Nat)(seen:List Nat):List Nat->List bD
 |[]=>[]
 |i::b=>
  match l[i]? with
  |some o=>DH l a seen i o::ph l a (i::seen) b
  |none=>[]
def rA(l:List bD)(a:Array Nat)(i j:Nat):Bool:=
 match l[i]?,l[j]? with
 |some x,some y=>
  let b:=(a.getD j 0).testBit i
  i !=j&&!(a.getD i 0).testBit j&&
  (match x.dst with
   |some d=>(match y.dst with|some e=>d !=e|none=>true)&&(b||!y.ke.contains d)
   |none=>true)&&
  (match y.dst with
   |some d=>!x.ke.contains d||(b&&!x.op.iZ)
   |none=>true)&&
  (!x.op.jN||(b&&(a.getD i 0&&&a.getD j 0)==a.getD i 0))
 |_,_=>false
def rB(x:bD):Bool:=
 x.op.jN||x.op.plain||(match x.dst with
  |some d=>x.op.kP||(x.op.iZ&&!x.ke.contains d)
  |none=>false)
def wz(l:List bD)(b:Array Nat):List Nat->Bool
 |[]=>true
 |i::a=>(match l[i]? with|some x=>rB x|none=>false)&&a.all (rA l b i)&&wz l b a
def yT(aA:Array Oper):Bool:=aA.toList.zipIdx.all λp=>p.1.after.all λe=>!Region.binds .any e||decide (e.on<p.2)
def uj(aA:Array Oper)(b:Bool):Option (List bD):=do
 let l<-aA.toList.mapM (pf P nt aA)
 if !b then return l
 let a:=Region.before aA
 let am:=order l a aA.size 0 []
 if(P.follows .mixedOrders||!Region.departs aA)&&yT aA&&(ahq aA.size).all am.contains&&wz l a am then return ph l a [] am else none
class Ov where
 eH:bw->Option Nat
 code:Nat->bw
 O':∀b t,eH b=some t->b=code t
variable[Ov]
def eJ:Code->Option bw
 |.skip|.label _=>some .skip
 |.region _ aA d=>(uj P nt aA d).map .region
 |.seq a b=>match eJ a,eJ b with
  |some a,some b=>some (match Ov.eH (.seq a b)with
   |some t=>.eH t
   |none=>.seq a b)
  |_,_=>none
 |.cond c a b=>match fj P nt c,eJ a,eJ b with
  |some c,some a,some b=>some (.cond c a b)
  |_,_,_=>none
 |.block id b=>(eJ b).map (.block id)
 |.loop b=>(eJ b).map .loop
 |.rangeFunc f e as bd=>match fj P nt f,eJ as,eJ bd with
  |some f,some as,some bd=>if e.toList.all (·<nt)then some (.rangeFunc f (e.toList.map ah.cV) as bd)else none
  |_,_,_=>none
 |.exit id=>some (.exit id)
 |.ret=>some .ret
 |.scope b=>eJ b
 |.goto _|.refuse _=>none
def wA:ResultVar->Option gO
 |.tmp t=>if t<nt then some (.tmp (ah.cV t))else none
 |.cell a t=>match mO P t,eW P t with
  |some g,some s=>if a<nt then some (.cell (ah.cV a) g (if g then s else 1))else none
  |_,_=>none
def yU(f:Func):Option aX:=do
 let b<-f.body
 let b<-eJ P f.ntmps b
 let r<-f.results.toList.mapM (wA P f.ntmps)
 return .code f.ntmps r b
end
end Go.al
namespace Go.al
structure aP where
 f:ah->Option (Nat×Nat)
 k:Nat->Nat×Nat
instance:CoeFun aP λ_=>ah->Option (Nat×Nat):=⟨aP.f⟩
def b9(c a:aP):Prop:=∀i x,c i=some x->a i=some x/\a.k x.1=c.k x.1
theorem b9.refl(a:aP):b9 a a:=λ_ _ h=>⟨h,rfl⟩
theorem b9.trans{a f c:aP}(h:b9 a f)(k:b9 f c):b9 a c:=λi x e=>⟨(k i x (h i x e).1).1,(k i x (h i x e).1).2.trans (h i x e).2⟩
mutual
def VR(e:aP):AV->Value->Prop
 |.tuple l,.tuple cs=>be e l cs.toList
 |.agg l,.agg cs=>be e l cs.toList
 |.bool a,.bool j=>a=j
 |.int k n,.int h m=>k=kc h/\n=m
 |.str s,.string t=>t.data.toList.map aiJ=s
 |.aD i o,.pointer (some a)=>∃j x,e i=some (j,x)/\a=⟨j,x+o,none⟩
 |.j5,.pointer none=>True
 |.slice i o len cap ex,.slice (some a) n c=>n=len/\len<=cap/\cap<=c/\(ex=true->c=cap)/\∃j x,e i=some (j,x)/\(c≠0->a=⟨j,x+o,none⟩)/\(ex=false->x+o+c*(e.k j).2<=(e.k j).1)
 |.bj,.slice none 0 0=>True
 |.map i,.map (some j)=>e i=some (j,0)
 |.cP,.map none=>True
 |.func f a j,.func (.func g) c d=>f=g/\be e a c.toList/\be e j d.toList
 |.yield i,.func (.yield j) c d=>e i=some (j,0)/\c= #[]/\d= #[]
 |.nilFunc,.nilFunc=>True
 |.iface t v,.iface u c=>t=u/\VR e v c
 |.nilIface,.nilIface=>True
 |.bQ,_=>True
 |_,_=>False
def be(a:aP):List AV->List Value->Prop
 |[],[]=>True
 |v::l,c::m=>VR a v c/\be a l m
 |_,_=>False
end
mutual
theorem VR.mono{m j:aP}(h:b9 m j):∀(v:AV)(c:Value),VR m v c->VR j v c
 |.tuple l,.tuple cs,s=>by exact be.mono h l cs.toList s
 |.agg l,.agg cs,s=>by exact be.mono h l cs.toList s
 |.bool _,.bool _,s=>by simpa only[VR]using s
 |.int _ _,.int _ _,s=>by simpa only[VR]using s
 |.str _,.string _,s=>by simpa only[VR]using s
 |.aD i o,.pointer (some a),s=>by
  obtain⟨w,x,e,rfl⟩:=s;exact⟨w,x,(h _ _ e).1,rfl⟩
 |.j5,.pointer none,_=>by simp only[VR]
 |.slice i o len cap ex,.slice (some a) n c,s=>by
  obtain⟨h1,h2,h3,p,w,x,e,q,r⟩:=s;exact⟨h1,h2,h3,p,w,x,(h _ _ e).1,q,by rw[show j.k w=m.k w from(h _ _ e).2];exact r⟩
 |.bj,.slice none 0 0,_=>by simp only[VR]
 |.map i,.map (some w),s=>by simp only[VR]at s⊢;exact(h _ _ s).1
 |.cP,.map none,_=>by simp only[VR]
 |.func f a w,.func (.func g) c d,s=>by
  simp only[VR]at s⊢;exact⟨s.1,be.mono h a c.toList s.2.1,be.mono h w d.toList s.2.2⟩
 |.yield i,.func (.yield w) c d,s=>by simp only[VR]at s⊢;exact⟨(h _ _ s.1).1,s.2⟩
 |.nilFunc,.nilFunc,_=>by simp only[VR]
 |.iface t v,.iface u c,s=>by simp only[VR]at s⊢;exact⟨s.1,VR.mono h v c s.2⟩
 |.nilIface,.nilIface,_=>by simp only[VR]
 |.bQ,_,_=>by simp only[VR]
theorem be.mono{e a:aP}(h:b9 e a):∀(l:List AV)(m:List Value),be e l m->be a l m
 |[],[],_=>by simp only[be]
 |v::l,c::m,k=>by simp only[be]at k⊢;exact⟨VR.mono h v c k.1,be.mono h l m k.2⟩
end
theorem be.length{a:aP}:∀{l:List AV}{m:List Value},be a l m->l.length=m.length|[],[],_=>rfl|_::_,_::_,k=>by simp[be.length k.2]|[],_::_,k=>by trivial|_::_,[],k=>by trivial
theorem be.append{a:aP}:∀{l:List AV}{m:List Value}{c:List AV}{e:List Value},be a l m->be a c e->be a (l++c) (m++e)|[],[],_,_,_,f=>by grind|_::_,_::_,_,_,k,f=>by exact⟨k.1,be.append k.2 f⟩|[],_::_,_,_,k,_=>by trivial|_::_,[],_,_,k,_=>by trivial
theorem be.get{e:aP}:∀{l:List AV}{m:List Value},be e l m->∀(i:Nat)(v:AV),l[i]?=some v->∃c,m[i]?=some c/\VR e v c|[],[],_,i,v,h=>by grind|a::l,c::m,k,0,v,h=>by simp_all[be]|a::l,c::m,k,i+1,v,h=>by simpa using be.get k.2 i v h|[],_::_,k,_,_,_=>by grind|_::_,[],k,_,_,_=>by trivial
theorem be.DI{e:aP}:∀{l:List AV}{m:List Value},l.length=m.length->(∀(i:Nat)(v:AV)(c:Value),l[i]?=some v->m[i]?=some c->VR e v c)->be e l m|[],[],_,_=>by trivial|a::l,c::m,h,k=>by exact⟨k 0 a c (by rfl) (by rfl),be.DI (by grind) λi v c h1 h2=>k (i+1) v c (by grind) (by grind)⟩|[],_::_,h,_=>by grind|_::_,[],h,_=>by grind
theorem be.take{a:aP}:∀{l:List AV}{m:List Value}(n:Nat),be a l m->be a (l.take n) (m.take n)|[],[],n,_=>by grind|_::_,_::_,0,_=>by trivial|_::_,_::_,n+1,k=>by exact⟨k.1,be.take n k.2⟩|[],_::_,_,k=>by trivial|_::_,[],_,k=>by trivial
theorem be.drop{a:aP}:∀{l:List AV}{m:List Value}(n:Nat),be a l m->be a (l.drop n) (m.drop n)|[],[],n,_=>by grind|_::_,_::_,0,k=>by grind|_::_,_::_,n+1,k=>by exact be.drop n k.2|[],_::_,_,k=>by trivial|_::_,[],_,k=>by trivial
theorem VR.cells{a:aP}{v:AV}{c:Value}(h:VR a v c)(hd:v.bk=true):be a v.cells c.cells.toList:=by cases v<;>cases c<;>first|(simp[VR]at h;done)|(simp[AV.bk]at hd;done)|(simp only[AV.cells,Value.cells,be,VR]at h⊢;first|exact h|exact⟨h,trivial⟩)
theorem VR.cY{a:aP}{v:AV}{c:Value}(h:VR a v c)(k:v.cY=true):(∀l,c≠.agg l)/\∀l,c≠.tuple l:=by cases v<;>cases c<;>simp_all[VR,AV.cY]
namespace az
variable{b:Type}(d:b)
theorem aG(x:b):∀(p q:ah)(t:az b),(t.set d q x).get d p=if p=q then x else t.get d p|.xH,.xH,t=>by rfl|.xH,.xO q,t=>by rfl|.xH,.xI q,t=>by rfl|.xO p,.xH,t=>by rfl|.xI p,.xH,t=>by rfl|.xO p,.xO q,t=>by simp[set,get,left,aG x p q]|.xI p,.xI q,t=>by simp[set,get,right,aG x p q]|.xO p,.xI q,t=>by rfl|.xI p,.xO q,t=>by rfl
theorem ae9(n:Nat):(az.ch:az b).br d n=d:=by rfl
theorem HK(t:az b):t.br d 0=t.val d:=by cases t<;>rfl
theorem yV(t:az b)(m:Nat)(h:m % 2=0):t.br d (m+1)=t.left.br d (m/2):=by cases t with|ch=>rfl|node l v r=>simp[h,br,left]
theorem yW(t:az b)(m:Nat)(h:¬m % 2=0):t.br d (m+1)=t.right.br d (m/2):=by cases t with|ch=>rfl|node l v r=>simp[h,br,right]
theorem DJ(x:b):∀(f n:Nat)(t:az b)(j:Nat),n<=f->(t.lD d f n x).br d j=if j=n then x else t.br d j
 |f,0,t,j,_=>by
  rw[show t.lD d f 0 x=.node t.left x t.right by cases f<;>rfl];cases j with
  |zero=>simp[br]
  |succ m=>
   simp only[br,Nat.succ_ne_zero,bF];split;·rename_i h;rw[yV d t m h]
   rename_i h;rw[yW d t m h]
 |0,n+1,_,_,h=>by omega
 |f+1,n+1,t,j,h=>by
  by_cases c:n % 2=0
  .rw[show t.lD d (f+1) (n+1) x=.node (lD d f (n/2) x t.left) (t.val d) t.right by simp[lD,c]];cases j with
   |zero=>simp[br,HK]
   |succ m=>
    by_cases a:m % 2=0
    .rw[yV d _ m a,left,DJ x f (n/2) t.left (m/2) aa,yV d t m a];by_cases e:m=n;·simp[e]
     rw[an aa,an aa]
    rw[yW d _ m a,right,yW d t m a,an aa]
  rw[show t.lD d (f+1) (n+1) x=.node t.left (t.val d) (lD d f (n/2) x t.right)by simp[lD,c]];cases j with
  |zero=>simp[br,HK]
  |succ m=>
   by_cases a:m % 2=0;·rw[yV d _ m a,left,yV d t m a,an aa]
   rw[yW d _ m a,right,DJ x f (n/2) t.right (m/2) aa,yW d t m a];by_cases e:m=n;·simp[e]
   rw[an aa,an aa]
end az
def ah.ap:ah->Nat
 |.xH=>1
 |.xO p=>2*p.ap
 |.xI p=>2*p.ap+1
theorem ah.sE:∀p:ah,0<p.ap|.xH=>by trivial|.xO p=>by have:=p.sE;simp_all[ap]|.xI p=>by simp[ap]
theorem ah.rC:∀{p q:ah},p.ap=q.ap->p=q|.xH,.xH,_=>rfl|.xH,.xO q,h=>by have:=q.sE;simp only[ap]at h;omega|.xH,.xI q,h=>by have:=q.sE;simp only[ap]at h;omega|.xO p,.xH,h=>by have:=p.sE;simp only[ap]at h;omega|.xI p,.xH,h=>by have:=p.sE;simp only[ap]at h;omega|.xO p,.xO q,h=>by simp only[ap]at h;rw[ah.rC (p:=p) (q:=q) aa]|.xI p,.xI q,h=>by simp only[ap]at h;rw[ah.rC (p:=p) (q:=q) aa]|.xO p,.xI q,h=>by simp only[ap]at h;omega|.xI p,.xO q,h=>by simp only[ap]at h;omega
theorem ah.eP:∀p:ah,p.succ.ap=p.ap+1|.xH=>rfl|.xO p=>rfl|.xI p=>by simp only[succ,ap,ah.eP p];rfl
theorem ah.kQ:∀t,(ah.cV t).ap=t+1|0=>rfl|t+1=>by rw[cV,eP,kQ t]
theorem ah.bE{a c:Nat}(h:ah.cV a=ah.cV c):a=c:=by have:=congrArg ah.ap h;grind[kQ]
theorem ah.ft:∀{p q:ah},ah.beq p q=true↔p=q|.xH,.xH=>by trivial|.xH,.xO q=>by simp[beq]|.xH,.xI q=>by simp[beq]|.xO p,.xH=>by simp[beq]|.xI p,.xH=>by simp[beq]|.xO p,.xO q=>by simp[beq,ah.ft (p:=p) (q:=q)]|.xI p,.xI q=>by simp[beq,ah.ft (p:=p) (q:=q)]|.xO p,.xI q=>by simp[beq]|.xI p,.xO q=>by simp[beq]
def gP(c:aP)(a:Nat)(af:az AV)(tmps:Array Value):Prop:=
 tmps.size=a/\∀t,t<a->VR c (af.get .ai8 (ah.cV t)) (tmps.getD t undef)
theorem gP.mono{c a:aP}{nt:Nat}{af:az AV}{tmps:Array Value}(h:b9 c a)(k:gP c nt af tmps):gP a nt af tmps:=⟨k.1,λt e=>VR.mono h _ _ (k.2 t e)⟩
theorem gP.set{a:aP}{f:Nat}{af:az AV}{tmps:Array Value}{v:AV}{c:Value}{d:Nat}(k:gP a f af tmps)(j:VR a v c):gP a f (af.set .ai8 (ah.cV d) v) (tmps.setIfInBounds d c):=by
 refine⟨by simp[k.1],λt g=>?_⟩;rw[az.aG];by_cases e:t=d
 .subst e;have:t<tmps.size:=by rw[k.1];exact g
  simp_all
 have i:ah.cV t≠ah.cV d:=λh=>e (ah.bE h);rw[an i];have:=k.2 t g;simp_all[undef,Array.getD,aiZ]
theorem VR.ai8(a:aP):VR a AV.ai8 Go.undef:=by trivial
end Go.al
namespace Go.al
variable{F o w w' w1:World}{W e2 fz2 n n2 nt ty x x2:Nat}{J u ρ:aP}{H' H2 O V:ai}{d:ah}{ces' k:Array MapEntry}{B P:Program}{M:az AV}{A f:TypeId}{I m:Value}{E:Array Value}{X:List AV}{Z isMax:Bool}{p:Nat×Nat}{L r:AV}{C a:Act}{S Y:Operand}{y:TypeDesc}{v:List Nat}{D:Oper}{Q:bJ}{l:Sem Next}{op:BinOp}{es' h t:List aV}{e:dB}{c:List Frame}{g:Frame}{b:Array Oper}{H:cC->Fr->ai->Prop}{q:List Item}{z:Nat->aX}{anc s:Array Nat}
section
variable[Ov]
def bR.aK:bR->List ah
 |.cells _ _ _ _ aK _=>aK
 |_=>[]
def bR.jO:bR->Bool
 |.cells _ _ _ rw _ _=>!rw
 |_=>false
def ct(a:aP):List aV->List MapEntry->Prop
 |[],[]=>True
 |e::l,c::m=>VR a e.key c.key/\VR a e.val c.val/\e.born=c.born/\ct a l m
 |_,_=>False
def cZ(a:aP):List aV->List MapEntry->Prop
 |[],[]=>True
 |e::l,c::m=>VR a e.key c.key/\VR a e.val c.val/\cZ a l m
 |_,_=>False
def nK:pW->LoopState->Prop
 |.ready,.ready|.busy,.busy|.done,.done|.exhausted,.exhausted=>True
 |_,_=>False
def nM:cC->Option Code->Prop
 |.none,none=>True
 |.exit i,some (.exit j)=>i=j
 |.ret,some .ret=>True
 |_,_=>False
def mP(a:aP):Option ah->Option Nat->Prop
 |none,none=>True
 |some i,some b=>a i=some (b,0)
 |_,_=>False
def bR.len:bR->Nat
 |.cells _ n _ _ _ _=>n
 |_=>0
variable(P:Program)
def kB(bB:Array MapEntry)(k:Nat):Prop:=(bB.toList.map (·.born)).Nodup/\∀c∈bB.toList,c.born<k
def OR(g:aP):bR->Nat->Obj->Prop
 |.cells c n e rw _ fz,off,.cells cs u fr=>u=e/\off+n<=cs.size/\(∀i,i<n->∃x,cs[off+i]?=some x/\VR g (c.br .ai8 i) x)/\
   (rw=true->∀i,off+fz<=i->i<cs.size->¬(fr.1<=i/\i<fr.2))
 |.map es a,off,.map bB k=>off=0/\k=a/\kB bB k/\ct g es bB.toList
 |.cK es,off,.map bB k=>off=0/\kB bB k/\∃l:List MapEntry,l.Perm bB.toList/\cZ g es l
 |.kz s j h,off,.stringIter bs p=>off=0/\p=h/\bs.data.toList.map aiJ=s/\j=s.drop h
 |.loop st bU _ af v as bd d,off,.loop r=>off=0/\nK st r.state/\nM bU r.pending/\g d=some (r.defers,0)/\
   r.params.toList.map ah.cV=v/\∃q,gP g q af r.tmps/\(∀p∈r.params.toList,p<q)/\eJ P q r.assign=some as/\eJ P q r.body=some bd
 |.deferred b,off,.deferred cs=>off=0/\(b=false->cs=some [])
 |.mapIter m f seen o,off,.mapIter w s y t=>off=0/\mP g m w/\s=f/\y.toList=seen/\t=o
 |_,_,_=>False
theorem ct.mono(h:b9 J u):∀{l:List aV}{m:List MapEntry},ct J l m->ct u l m|[],[],_=>by trivial|_::_,_::_,k=>by exact⟨VR.mono h _ _ k.1,VR.mono h _ _ k.2.1,k.2.2.1,ct.mono h k.2.2.2⟩|[],_::_,k=>by trivial|_::_,[],k=>by trivial
theorem kB.empty:kB #[] 0:=⟨aC,λc h=>by grind⟩
theorem kB.modify(h:kB k x)(i:Nat){f:MapEntry->MapEntry}(g:∀e,(f e).born=e.born):kB (k.modify i f) x:=by
 have:∀(l:List MapEntry)(i:Nat),(l.modify i f).map (·.born)=l.map (·.born):=by intro l;induction l with|nil=>intro i;cases i<;>rfl|cons a l j=>intro i;cases i with|zero=>simp[g]|succ i=>simp[j]
 refine⟨by rw[Array.toList_modify,this];exact h.1,λc m=>?_⟩;have b:c.born∈(k.toList.modify i f).map (·.born):=ahG (by rw[<-Array.toList_modify];exact m);rw[this,ahm]at b;have⟨d,hd,e⟩:=b;rw[<-e];exact h.2 d hd
theorem kB.push(h:kB k x){e:MapEntry}(he:e.born=x):kB (k.push e) (x+1):=by
 refine⟨?_,λc f=>?_⟩;·rw[Array.toList_push,ahx,ahZ];refine⟨h.1,aC,λa g b hb=>?_⟩;simp only[ahk,aiz,abt]at hb;rw[ahm]at g;obtain⟨d,hd,rfl⟩:=g;have:=h.2 d hd;omega
 rw[Array.toList_push,ac6]at f;rcases f with f|f;·have:=h.2 c f;omega
 grind
theorem kB.erase(h:kB k x)(i:Nat):kB (k.eraseIdxIfInBounds i) x:=by
 refine⟨?_,λc a=>?_⟩;·rw[Array.toList_eraseIdxIfInBounds];exact h.1.sublist ((List.eraseIdx_sublist _ _).map _)
 rw[Array.toList_eraseIdxIfInBounds]at a;exact h.2 c ((List.eraseIdx_sublist _ _).subset a)
theorem cZ.mono(h:b9 J u):∀{l:List aV}{m:List MapEntry},cZ J l m->cZ u l m|[],[],_=>by trivial|_::_,_::_,k=>by exact⟨VR.mono h _ _ k.1,VR.mono h _ _ k.2.1,cZ.mono h k.2.2⟩|[],_::_,k=>by trivial|_::_,[],k=>by trivial
variable{P}
theorem OR.mono(h:b9 J u){o:bR}{a:Obj}(k:OR P J o x a):OR P u o x a:=by
 cases o<;>cases a<;>simp only[OR]at k⊢;·grind[VR.mono]
 .grind[ct.mono]
 .grind[cZ.mono]
 .omega
 .have⟨h1,h2,h3,b,c,nt,d,e⟩:=k;exact⟨h1,h2,h3,(h _ _ b).1,c,nt,gP.mono h d,e⟩
 .omega
 refine⟨k.1,?_,k.2.2⟩;have:=k.2.1;rename_i m _ _ _ f _ _ _;cases m<;>cases f<;>simp only[mP]at this⊢;exact(h _ _ this).1
structure cq where
 w:Nat->Prop
 r:Nat->Prop
 un:ah->Prop
 dJ:ah->Prop
structure dk(Wr:cq)(w w':World):Prop where
 os:w'.os=w.os
 tape:w'.tape=w.tape
 output:w'.output=w.output
 size:w.heap.size<=w'.heap.size
 block:∀k,k<w.heap.size->¬Wr.w k->w'.heap[k]?=w.heap[k]?
theorem dk.refl(a:cq)(w:World):dk a w w:=⟨rfl,rfl,rfl,aeE _,λ_ _ _=>rfl⟩
theorem dk.trans{a:cq}(h:dk a F w)(k:dk a w o):dk a F o:=⟨k.os.trans h.os,k.tape.trans h.tape,k.output.trans h.output,aiw h.size k.size,λi hi b=>(k.block i (ahC hi h.size) b).trans (h.block i hi b)⟩
theorem dk.drew{a:cq}(h:dk a w F):dk a w {F with drawn:=F.drawn+1}:=⟨h.os,h.tape,h.output,h.size,h.block⟩
variable(P)
def eQ(q:Nat×Nat):bR->Obj->Prop
 |.cells _ _ e _ _ _,.cells cs _ _=>q=(cs.size,(eW P e).getD 0)
 |_,_=>True
structure bm(Wr:cq)(ρ:aP)(H:ai)(w:World):Prop where
 dq:∀i,H.get i≠.none->∃b x ob,ρ i=some (b,x)/\w.heap[b]?=some ob/\OR P ρ (H.get i) x ob
 jC:∀i j b x y,i≠j->H.get i≠.none->H.get j≠.none->ρ i=some (b,x)->ρ j=some (b,y)->(i∈(H.get j).aK/\x+(H.get i).len<=y+(H.get j).len)\/(j∈(H.get i).aK/\y+(H.get j).len<=x+(H.get i).len)
 aK:∀i j,i∈(H.get j).aK->i.ap<H.next.ap/\(H.get i≠.none->(H.get i).jO=true)
 wr:∀i b x,H.get i≠.none->(H.get i).jO=false->ρ i=some (b,x)->Wr.w b
 du:∀i,H.next.ap<=i.ap->H.get i=.none/\ρ i=none
 new:∀k,w.heap.size<=k->Wr.w k/\Wr.r k
 kR:∀g,g<P.globals.size->ρ (ah.cV g)=some (g,0)
 iK:∀i b x ob,H.get i≠.none->ρ i=some (b,x)->w.heap[b]?=some ob->eQ P (ρ.k b) (H.get i) ob
 ef:∀i b x,ρ i=some (b,x)->b<w.heap.size
 rd:∀i b x,H.get i≠.none->ρ i=some (b,x)->Wr.r b
 un:∀i,Wr.un i->H.get i=.none/\i.ap<H.next.ap/\∀j,i∉(H.get j).aK
 dJ:∀i,Wr.dJ i->Wr.un i/\ρ i=none
variable{P}
theorem bm.drew{a:cq}(h:bm P a J O F):bm P a J O {F with drawn:=F.drawn+1}:=⟨h.dq,h.jC,h.aK,h.wr,h.du,h.new,h.kR,h.iK,h.ef,h.rd,h.un,h.dJ⟩
theorem ai.aG(H:ai)(i j:ah)(o:bR):(H.set i o).get j=if j=i then o else H.get j:=az.aG _ _ _ _ _
theorem ai.cL(H:ai)(j:ah)(o:bR):(H.new o).get j=if j=H.next then o else H.get j:=az.aG _ _ _ _ _
theorem ai.eK(H:ai)(i:ah)(o:bR):(H.set i o).next=H.next:=rfl
theorem ai.uk:∀(l:List ah)(H:ai)(j:ah),(H.eI l).get j=if j∈l then .none else H.get j|[],H,j=>by simp[ai.eI]|i::l,H,j=>by rw[ai.eI,ai.uk l,ai.aG];by_cases h:j∈l<;>by_cases e:j=i<;>simp[h,e]
theorem ai.iL:∀(l:List ah)(H:ai),(H.eI l).next=H.next|[],_=>rfl|i::l,H=>by rw[ai.eI,ai.iL l];rfl
def aP.add(a:aP)(i:ah)(b x:Nat)(q:Nat×Nat):aP:=⟨λj=>if j=i then some (b,x)else a j,λc=>if c=b then q else a.k c⟩
theorem aP.eA(a:aP)(i:ah)(b x:Nat)(q:Nat×Nat):a.add i b x q i=some (b,x):=by simp[aP.add]
theorem aP.sF(a:aP)(i:ah)(b x:Nat)(q:Nat×Nat):(a.add i b x q).k b=q:=by simp[aP.add]
theorem aP.qi(b x:Nat)(q:Nat×Nat)(h:J d=none)(hb:∀j c y,J j=some (c,y)->c=b->J.k b=q):b9 J (J.add d b x q):=by
 intro j y e;refine⟨?_,?_⟩;·show(if j=d then some (b,x)else J j)=some y;grind
 show(if y.1=b then q else J.k y.1)=J.k y.1;grind
theorem bm.alloc{w:cq}(h:bm P w J O F){o:bR}{ob:Obj}(q:Nat×Nat)(H:eQ P q o ob)(M:o≠.none)(D:o.aK=[])(z:OR P (J.add O.next F.heap.size 0 q) o 0 ob):b9 J (J.add O.next F.heap.size 0 q)/\bm P w (J.add O.next F.heap.size 0 q) (O.new o) {F with heap:=F.heap.push ob}/\dk w F {F with heap:=F.heap.push ob}:=by
 have I:=h.du O.next (aeE _);have f:b9 J (J.add O.next F.heap.size 0 q):=aP.qi F.heap.size 0 q I.2 (λj c y e N=>by have:=h.ef j c y e;omega);have s:∀i,O.get i≠.none->∃b x ob,J i=some (b,x)/\b<F.heap.size/\F.heap[b]?=some ob/\OR P J (O.get i) x ob:=by
  intro i hi;have⟨b,x,ob,e,hb,z⟩:=h.dq i hi;refine⟨b,x,ob,e,?_,hb,z⟩;rcases aic b F.heap.size with hl|hl;·exact hl
  simp[aiq hl]at hb
 refine⟨f,⟨?_,?_,?_,?_,?_,?_,?_,?_,?_,?_,?_,?_⟩,⟨rfl,rfl,rfl,aC,?_⟩⟩
 .intro i hi;rw[ai.cL]at hi⊢;by_cases e:i=O.next;·subst e;rw[aF rfl];exact⟨F.heap.size,0,ob,aP.eA ..,aC,z⟩
  rw[an e]at hi⊢;have⟨b,x,r,t,hl,hb,B⟩:=s i hi;refine⟨b,x,r,(f _ _ t).1,?_,OR.mono f B⟩;show(F.heap.push ob)[b]?=_;rw[aiA,an aa];exact hb
 .intro i j b x y u hi hj m n;rw[ai.cL]at hi hj;rw[ai.cL,ai.cL];by_cases d:i=O.next;·subst d;have p:j≠O.next:=λh=>u h.symm;rw[an p]at hj;have⟨K,L,_,t,hl,_⟩:=s j hj;rw[aP.eA]at m;have:=(f _ _ t).1;rw[this]at n;injection m with m;injection n with n;injection m with m _;injection n with n _;omega
  by_cases p:j=O.next;·subst p;rw[an d]at hi;have⟨K,L,_,t,hl,_⟩:=s i hi;rw[aP.eA]at n;have:=(f _ _ t).1;rw[this]at m;injection m with m;injection n with n;injection m with m _;injection n with n _;omega
  rw[an d]at hi⊢;rw[an p]at hj⊢;simp only[aP.add,an d,an p]at m n;exact h.jC i j b x y u hi hj m n
 .intro i j hj;rw[ai.cL]at hj;by_cases p:j=O.next;·rw[aF p,D]at hj;cases hj
  rw[an p]at hj;have⟨h1,h2⟩:=h.aK i j hj;have d:i≠O.next:=λe=>by subst e;omega
  rw[ai.cL,an d];refine⟨?_,h2⟩;show i.ap<O.next.succ.ap;rw[ah.eP];omega
 .intro i b x hi A e;rw[ai.cL]at hi A;by_cases d:i=O.next;·subst d;rw[aP.eA]at e;injection e with e;injection e with e _;exact(h.new b aa).1
  rw[an d]at hi A;simp only[aP.add,an d]at e;exact h.wr i b x hi A e
 .intro i hi;have C:O.next.succ.ap<=i.ap:=hi;rw[ah.eP]at C;have v:i≠O.next:=λe=>by subst e;omega
  rw[ai.cL,an v];have⟨a,b⟩:=h.du i aa;exact⟨a,by simp[aP.add,v,b]⟩
 .intro Q E;exact h.new Q (by simp at E;omega)
 .intro g hg;exact(f _ _ (h.kR g hg)).1
 .intro i b x r hi e hb;rw[ai.cL]at hi⊢;by_cases d:i=O.next;·subst d;rw[aP.eA]at e;injection e with e;injection e with e _;subst e;rw[aF rfl,aP.sF];have l:(F.heap.push ob)[F.heap.size]?=some r:=hb;rw[aiA,aF rfl]at l;injection l with l;rw[<-l];exact H
  rw[an d]at hi⊢;simp only[aP.add,an d]at e;have G:=h.ef i b x e;have l:(F.heap.push ob)[b]?=some r:=hb;rw[aiA,an aa]at l;rw[show(J.add O.next F.heap.size 0 q).k b=J.k b from(f _ _ e).2];exact h.iK i b x r hi e l
 .intro i b x e;show b<(F.heap.push ob).size;rw[Array.size_push];by_cases d:i=O.next;·subst d;rw[aP.eA]at e;injection e with e;injection e with e _;omega
  simp only[aP.add,an d]at e;have:=h.ef i b x e;omega
 .intro i b x hi e;rw[ai.cL]at hi;by_cases d:i=O.next;·subst d;rw[aP.eA]at e;injection e with e;injection e with e _;exact(h.new b aa).2
  rw[an d]at hi;simp only[aP.add,an d]at e;exact h.rd i b x hi e
 .intro i hi;have⟨h1,h2,h3⟩:=h.un i hi;have d:i≠O.next:=λe=>by subst e;omega
  refine⟨by rw[ai.cL,an d];exact h1,?_,λj hj=>?_⟩;·show i.ap<O.next.succ.ap;rw[ah.eP];omega
  rw[ai.cL]at hj;by_cases p:j=O.next;·rw[aF p,D]at hj;cases hj
  rw[an p]at hj;exact h3 j hj
 .intro i hi;have⟨h1,h2⟩:=h.dJ i hi;have d:i≠O.next:=λe=>by have:=(h.un i h1).2.1;subst e;omega
  exact⟨h1,by simp[aP.add,d,h2]⟩
 intro Q E _;show(F.heap.push ob)[Q]?=_;rw[aiA,an aa]
theorem bm.aE{c:cq}(h:bm P c J O F){i:ah}(hi:O.get i≠.none):∃b x a,J i=some (b,x)/\b<F.heap.size/\F.heap[b]?=some a/\OR P J (O.get i) x a:=by have⟨b,x,a,e,hb,d⟩:=h.dq i hi;grind
theorem bm.A0{a:cq}(h:bm P a J O F)(hi:O.get d≠.none):d.ap<O.next.ap:=by
 rcases aic d.ap O.next.ap with hl|hl;·omega
 exact absurd (h.du d hl).1 hi
theorem bm.pi{E:cq}(h:bm P E J O F){i:ah}{b:Nat}{o':bR}{ob':Obj}(hi:O.get i≠.none)(s:(O.get i).jO=false)(hb:J i=some (b,x))(R:o'.aK=[])(T:OR P J o' x ob')(V:eQ P (J.k b) o' ob')(u:w'.heap=F.heap.setIfInBounds b ob')(H:w'.os=F.os)(I:w'.tape=F.tape)(K:w'.output=F.output):bm P E J ((O.eI (O.get i).aK).set i o') w'/\dk E F w':=by
 have⟨Y,Z,ob,C,hl,W,X⟩:=h.aE hi;rw[hb]at C;injection C with C;injection C with m p;subst m;have d:∀j,((O.eI (O.get i).aK).set i o').get j=if j=i then o' else if j∈(O.get i).aK then .none else O.get j:=by intro j;rw[ai.aG,ai.uk]
 have a:∀j,j≠i->(if j∈(O.get i).aK then bR.none else O.get j)≠.none->j∉(O.get i).aK/\O.get j≠.none:=by
  intro j _ hj;by_cases n:j∈(O.get i).aK;·rw[aF n]at hj;exact absurd rfl hj
  rw[an n]at hj;exact⟨n,hj⟩
 have t:∀j y c,j≠i->j∉(O.get i).aK->O.get j≠.none->J j=some (c,y)->c≠b:=by
  intro j y c L M hj g r;subst r;rcases h.jC i j c x y (λe=>L e.symm) hi hj hb g with⟨n,_⟩|⟨n,_⟩;·have:=(h.aK i j n).2 hi;rw[s]at this;cases this
  exact M n
 refine⟨⟨?_,?_,?_,?_,?_,?_,?_,?_,?_,?_,?_,?_⟩,⟨H,I,K,by rw[u];simp,?_⟩⟩
 .intro j hj;rw[d]at hj⊢;by_cases e:j=i;·subst e;rw[aF rfl];exact⟨b,x,ob',hb,by rw[u,ahL];simp[hl],T⟩
  rw[an e]at hj⊢;have⟨n,f⟩:=a j e hj;rw[an n];have⟨c,y,G,S,r,N⟩:=h.dq j f;have:=t j y c e n f S;exact⟨c,y,G,S,by rw[u,ahL,an (λh=>this h.symm)];exact r,N⟩
 .intro j ag c y z B hj l g v;rw[d]at hj l;rw[d,d];by_cases m:j=i;·subst m;have p:ag≠j:=λh=>B h.symm;rw[an p]at l;have⟨n,w⟩:=a ag p l;rw[hb]at g;injection g with g;injection g with g _;exact absurd g.symm (t ag z c p n w v)
  by_cases p:ag=i;·subst p;rw[an m]at hj;have⟨n,f⟩:=a j m hj;rw[hb]at v;injection v with v;injection v with v _;exact absurd v.symm (t j y c m n f g)
  rw[an m]at hj⊢;rw[an p]at l⊢;have⟨q,f⟩:=a j m hj;have⟨o,w⟩:=a ag p l;rw[an q,an o];exact h.jC j ag c y z B f w g v
 .intro j ag l;rw[d]at l;have A:((O.eI (O.get i).aK).set i o').next=O.next:=by rw[ai.eK,ai.iL]
  rw[A];by_cases p:ag=i;·rw[aF p,R]at l;cases l
  rw[an p]at l;by_cases o:ag∈(O.get i).aK;·rw[aF o]at l;cases l
  rw[an o]at l;have⟨h1,h2⟩:=h.aK j ag l;refine⟨h1,λhj=>?_⟩;rw[d]at hj⊢;by_cases m:j=i;·subst m;have:=h2 hi;rw[s]at this;cases this
  rw[an m]at hj⊢;have⟨q,f⟩:=a j m hj;rw[an q];exact h2 f
 .intro j c y hj D g;rw[d]at hj D;by_cases m:j=i;·subst m;exact h.wr j c y hi s g
  rw[an m]at hj D;have⟨q,f⟩:=a j m hj;rw[an q]at D;exact h.wr j c y f D g
 .intro j hj;have f:O.next.ap<=j.ap:=by rw[ai.eK,ai.iL]at hj;exact hj
  have⟨h1,h2⟩:=h.du j f;refine⟨?_,h2⟩;rw[d];by_cases m:j=i;·subst m;exact absurd h1 hi
  rw[an m];split;·rfl
  exact h1
 .intro ag l;exact h.new ag (by rw[u]at l;simpa using l)
 .exact h.kR
 .intro j c y G hj g r;rw[d]at hj⊢;by_cases e:j=i;·subst e;rw[aF rfl];rw[hb]at g;injection g with g;injection g with g _;subst g;rw[u,ahL]at r;simp only[hl,bg,aa9]at r;rw[<-r];exact V
  rw[an e]at hj⊢;have⟨n,f⟩:=a j e hj;rw[an n];have:=t j y c e n f g;rw[u,ahL,an (λh=>this h.symm)]at r;exact h.iK j c y G f g r
 .intro j c y g;rw[u,Array.size_setIfInBounds];exact h.ef j c y g
 .intro j c y hj g;rw[d]at hj;by_cases e:j=i;·subst e;exact h.rd j c y hi g
  rw[an e]at hj;exact h.rd j c y (a j e hj).2 g
 .intro j hj;have A:((O.eI (O.get i).aK).set i o').next=O.next:=by rw[ai.eK,ai.iL]
  rw[A];have⟨h1,h2,h3⟩:=h.un j hj;refine⟨?_,h2,λag l=>?_⟩;·rw[d,an (λe=>hi (by rw[<-e];exact h1)),h1];split<;>rfl
  rw[d]at l;by_cases p:ag=i;·rw[aF p,R]at l;cases l
  rw[an p]at l;by_cases o:ag∈(O.get i).aK;·rw[aF o]at l;cases l
  rw[an o]at l;exact h3 ag l
 .exact h.dJ
 intro ag l Q;have:ag≠b:=λe=>Q (e▸h.wr i b x hi s hb);rw[u,ahL,an (λh=>this h.symm)]
theorem bm.A3{a:cq}(h:bm P a J O F)(e:w.heap=F.heap):bm P a J O w:=⟨by rw[e];exact h.dq,h.jC,h.aK,h.wr,h.du,by rw[e];exact h.new,h.kR,by rw[e];exact h.iK,by rw[e];exact h.ef,h.rd,h.un,h.dJ⟩
theorem dk.A3{d:cq}(h:dk d o F)(e:w.heap=F.heap)(a:w.os=F.os)(b:w.tape=F.tape)(c:w.output=F.output):dk d o w:=⟨a.trans h.os,b.trans h.tape,c.trans h.output,by rw[e];exact h.size,λk h1 h2=>by rw[e];exact h.block k h1 h2⟩
end
variable{N:cq}
section
variable[Ov]
theorem sG(b o i:Nat):(⟨b,o,none⟩:Addr).add i=⟨b,o+i,none⟩:=by simp[Addr.add]
theorem DK(w:World)(h:w.heap[x]?=some (.cells E A p))(o:Nat):w.cell? ⟨x,o,none⟩=E[o]?:=by simp[h,World.cell?]
theorem Pa(w:World)(h:w.heap[x]?=some (.cells E A p))(o:Nat):w.frozen? ⟨x,o,none⟩=(decide (p.1<=o)&&decide (o<p.2)):=by simp[h,World.frozen?]
theorem Pb(w:World)(h:w.cell? ⟨x,W,none⟩=some I):(load ⟨x,W,none⟩).run B w=.ok I w:=by simp[h]
theorem yX(w:World)(h:w.heap[x]?=some (.cells E A p))(o m:Nat)(a:o+m<=E.size):(loadCells ⟨x,o,none⟩ m).run P w=.ok ((E.toList.drop o).take m).toArray w:=by
 have hl:((E.toList.drop o).take m).length=m:=by simp;omega
 grind[run_loadCells_list,sG,DK]
def wr(cs:Array Value):Nat->List Value->Array Value
 |_,[]=>cs
 |o,v::l=>wr (cs.setIfInBounds o v) (o+1) l
theorem rD:∀(l:List Value)(cs:Array Value)(o:Nat),(wr cs o l).size=cs.size|[],_,_=>rfl|v::l,cs,o=>by rw[wr,rD l];simp
theorem yY:∀(l:List Value)(cs:Array Value)(o j:Nat),o+l.length<=cs.size->(wr cs o l)[j]?=if o<=j/\j<o+l.length then l[j - o]? else cs[j]?
 |[],cs,o,j,_=>by rw[wr,an (by simp only[List.length_nil];omega)]
 |v::l,cs,o,j,h=>by
  simp only[ahK]at h;rw[wr,yY l _ _ _ (by simp;omega)];simp only[ahK];by_cases h1:o+1<=j/\j<o+1+l.length;·rw[aF h1,aF aa];rw[show j - o=(j - (o+1))+1 by omega];simp
  rw[an h1];by_cases h2:j=o;·subst h2;rw[aF aa];rw[ahL];simp;omega
  rw[an aa,ahL,an (λe=>h2 e.symm)]
theorem Pc(w:World)(h:w.heap[x]?=some (.cells E A p))(o:Nat)(v:Value):(w.setCell ⟨x,o,none⟩ v).heap=w.heap.setIfInBounds x (.cells (E.setIfInBounds o v) A p):=by
 have hl:x<w.heap.size:=by
  rcases aic x w.heap.size with hl|hl;·exact hl
  simp[aiq hl]at h
 unfold World.setCell;grind
theorem DL(b:Nat)(a:TypeId)(fr:Nat×Nat):∀(l:List Value)(w:World)(cs:Array Value)(o:Nat),w.heap[b]?=some (.cells cs a fr)->(w.setCells b o l).heap=w.heap.setIfInBounds b (.cells (wr cs o l) a fr)/\(w.setCells b o l).os=w.os/\(w.setCells b o l).tape=w.tape/\(w.setCells b o l).output=w.output
 |[],w,cs,o,h=>by refine⟨?_,rfl,rfl,rfl⟩;simp only[World.setCells,wr];grind
 |v::l,w,cs,o,h=>by
  have h1:=Pc w h o v;have hl:b<w.heap.size:=by
   rcases aic b w.heap.size with hl|hl;·exact hl
   simp[aiq hl]at h
  have h2:(w.setCell ⟨b,o,none⟩ v).heap[b]?=some (.cells (cs.setIfInBounds o v) a fr):=by rw[h1,ahL];simp[hl]
  have⟨f,c,d,e⟩:=DL b a fr l (w.setCell ⟨b,o,none⟩ v) _ (o+1) h2;simp only[World.setCells,wr];refine⟨?_,c,d,e⟩;grind
theorem HL(w:World)(h:w.heap[x]?=some (.cells E A p))(o:Nat)(l:List Value)(b:o+l.length<=E.size)(a:∀i,o<=i->i<o+l.length->¬(p.1<=i/\i<p.2))(h1:∀v∈l,v.oneCell'=true):(storeCells ⟨x,o,none⟩ l).run P w=.ok () (w.setCells x o l):=by have:=run_storeCells_cells (P:=P) x o l 0 w (λj hj=>by rw[DK w h];simp;omega) (λj hj=>by rw[Pa w h];have:=a (o+0+j) aa aa;simp only[Bool.and_eq_false_iff,decide_eq_false_iff_not];omega) h1;omega
theorem lg:∀(l:List AV)(c:az AV)(o j:Nat),(ez c o l).br .ai8 j=if o<=j/\j<o+l.length then l.getD (j - o) .ai8 else c.br .ai8 j
 |[],c,o,j=>by rw[ez,an (by simp only[List.length_nil];omega)]
 |v::l,c,o,j=>by
  rw[ez,lg l,az.DJ _ _ _ _ _ _ (aeE _)];simp only[ahK];by_cases h1:o+1<=j/\j<o+1+l.length;·rw[aF h1,aF aa,show j - o=(j - (o+1))+1 by omega];simp
  rw[an h1];by_cases h2:j=o;·subst h2;rw[aF rfl,aF aa];simp
  rw[an h2,an aa]
theorem nN(l:List AV)(j:Nat)(h:j<l.length):(cr l).br .ai8 j=l.getD j .ai8:=by simp_all[cr,lg,aF]
theorem A4:∀(m:Nat)(c:az AV)(n o:Nat)(l:List AV),fZ c n o m=some l->l.length=m/\(0<m->o+m<=n)/\∀j,j<m->l[j]?=some (c.br .ai8 (o+j))
 |0,c,n,o,l,h=>by simp_all[fZ,aa9]
 |m+1,c,n,o,l,h=>by
  simp only[fZ]at h;split at h
  .split at h;·rename_i a hl;simp only[aa9]at h;subst h;have⟨h1,h2,h3⟩:=A4 m c n (o+1) a hl;grind
   grind
  grind
theorem A5{aK:List ah}(h:OR B J (.cells M nt ty Z aK e2) n (.cells E A p))(hl:fZ M nt W x=some X):be J X ((E.toList.drop (n+W)).take x)/\(0<x->n+W+x<=E.size):=by
 have⟨_,h2,h3,_⟩:=h;have⟨e,c,a3⟩:=A4 x M nt W X hl;have b:0<x->n+W+x<=E.size:=λd=>by have:=c d;omega
 refine⟨be.DI ?_ ?_,b⟩;·grind
 intro i v f a g;have hi:i<x:=by
  rcases aic i x with h|h;·exact h
  rw[ah1 aa]at a;cases a
 rw[a3 i hi]at a;injection a with a;subst a;have⟨y,j,k⟩:=h3 (W+i) aa;grind
theorem be.DM:∀{l:List AV}{m:List Value},be J l m->cU l=true->∀v∈m,v.oneCell'=true
 |[],[],_,_,_,h=>by grind
 |a::l,c::m,k,h,v,b=>by
  simp only[cU,ahl]at h;rcases ac2.1 b with e|e;·subst e;have:=VR.cY k.1 h.1;cases v<;>simp_all[Value.oneCell']
  exact be.DM k.2 h.2 v e
 |[],_::_,k,_,_,_=>by trivial
 |_::_,[],k,_,_,_=>by grind
theorem yZ(h:bm P N J O F){i:ah}(b:gF O i x X=some V)(hb:J i=some (n,W)){m:List Value}(r:be J X m):(storeCells ⟨n,W+x,none⟩ m).run P F=.ok () (F.setCells n (W+x) m)/\bm P N J V (F.setCells n (W+x) m)/\dk N F (F.setCells n (W+x) m):=by
 unfold gF at b;split at b
 .rename_i c S e aK fz hi;split at b
  .rename_i v;simp only[ahl,decide_eq_true_eq]at v;have⟨⟨L,M⟩,u⟩:=v;injection b with b;subst b;have d:O.get i≠.none:=by rw[hi];simp
   have⟨Q,R,B,q,hl,f,a⟩:=h.aE d;rw[hb]at q;injection q with q;injection q with s t;subst s;subst t;rw[hi]at a;cases B with
   |cells cs w fr=>
    simp only[OR]at a;have⟨C,D,E,z⟩:=a;have A:=be.length r;have p:=HL (P:=P) F f (W+x) m aa (λj k g=>z trivial j aa aa) (be.DM r u);have⟨s,t,G,H⟩:=DL n w fr m F cs (W+x) f;have:=h.pi (i:=i) (o':=.cells (ez c x X) S e true [] fz) (ob':=.cells (wr cs (W+x) m) w fr) d (by rw[hi];rfl) hb rfl (by
     simp only[OR];refine⟨C,by rw[rD];exact D,λj hj=>?_,λ_ j k g=>z trivial j k (by rw[rD]at g;exact g)⟩;rw[lg,yY _ _ _ _ aa];by_cases l:x<=j/\j<x+X.length;·rw[aF l,aF aa,show W+j - (W+x)=j - x by omega];have o:j - x<X.length:=aa;have⟨y,I,K⟩:=be.get r (j - x) X[j - x] (by simp[o]);exact⟨y,I,by simpa[List.getD,o]using K⟩
     rw[an l,an aa];exact E j hj) (by have:=h.iK i n W _ d hb f;rw[hi]at this;simp only[eQ]at this⊢;rw[rD];exact this) s t G H;rw[hi]at this;exact⟨p,this.1,this.2⟩
   |_=>simp[OR]at a
  cases b
 cases b
theorem bm.HM(h:bm B N J O F){aK:List ah}(hi:O.get d=.cells M W x true aK nt)(hb:J d=some (n,ty)){c2:az AV}{b2:Nat}{ob2:Obj}(q:Nat×Nat)(hq:eQ B q (.cells c2 n2 e2 true (d::aK) fz2) ob2)(ba:b2=n->q=J.k n)(hr:OR B (J.add O.next b2 x2 q) (.cells c2 n2 e2 true (d::aK) fz2) x2 ob2)(bb:w'.os=F.os)(bc:w'.tape=F.tape)(bv:w'.output=F.output)(b:(b2=F.heap.size/\w'.heap=F.heap.push ob2)\/(b2=n/\w'.heap=F.heap.setIfInBounds n ob2/\ty+W<=x2+n2/\∃cs R el fr,F.heap[n]?=some (.cells cs el fr)/\ob2=.cells R el fr/\R.size=cs.size/\∀j,j<ty+W->R[j]?=cs[j]?)):b9 J (J.add O.next b2 x2 q)/\bm B N (J.add O.next b2 x2 q) ((O.set d (.cells M W x false aK nt)).new (.cells c2 n2 e2 true (d::aK) fz2)) w'/\dk N F w':=by
 have C:O.get d≠.none:=by rw[hi];simp
 have a2:(O.get d).jO=false:=by rw[hi];rfl
 have I:(O.get d).aK=aK:=by rw[hi];rfl
 have S:(O.get d).len=W:=by rw[hi];rfl
 have hf:=h.du O.next (aeE _);have m:b9 J (J.add O.next b2 x2 q):=aP.qi b2 x2 q hf.2 (λj l y e' r=>by
  rcases b with⟨h1,_⟩|⟨h1,_⟩;·have:=h.ef j l y e';omega
  rw[h1];exact(ba h1).symm);have b0:d≠O.next:=λx=>C (x▸hf.1);have⟨dr,x',ob,e',hl,cR,c8⟩:=h.aE C;rw[hb]at e';injection e' with e';injection e' with o c9;subst o;have a6:N.w n:=h.wr d n ty C a2 hb;have e:∀j,((O.set d (.cells M W x false aK nt)).new (.cells c2 n2 e2 true (d::aK) fz2)).get j=if j=O.next then .cells c2 n2 e2 true (d::aK) fz2 else if j=d then .cells M W x false aK nt else O.get j:=by intro j;rw[ai.cL,ai.eK,ai.aG]
 have f:∀j,j≠O.next->(if j=d then(bR.cells M W x false aK nt)else O.get j)≠.none->O.get j≠.none:=by
  intro j _ hj;by_cases x:j=d;·subst x;exact C
  rwa[an x]at hj
 have c:∀j,(if j=d then(bR.cells M W x false aK nt)else O.get j).aK=(O.get j).aK/\(if j=d then(bR.cells M W x false aK nt)else O.get j).len=(O.get j).len:=by
  intro j;by_cases x:j=d;·subst x;rw[aF rfl,hi];exact⟨rfl,rfl⟩
  rw[an x];exact⟨rfl,rfl⟩
 have E:∀j y,j≠d->O.get j≠.none->J j=some (n,y)->j∈aK/\y+(O.get j).len<=ty+W:=by
  intro j y Y hj a;rcases h.jC d j n ty y (λx=>Y x.symm) C hj hb a with⟨hm,_⟩|⟨hm,a8⟩;·have:=(h.aK d j hm).2 C;rw[a2]at this;cases this
  rw[I]at hm;rw[S]at a8;exact⟨hm,a8⟩
 have av:∀j l y,O.get j≠.none->J j=some (l,y)->l=b2->(j=d\/j∈aK)/\y+(O.get j).len<=x2+n2:=by
  intro j l y hj a r;rcases b with⟨h1,_⟩|⟨h1,_,h3,_⟩;·have⟨b3,y',_,Z,b4,_⟩:=h.aE hj;rw[a]at Z;injection Z with Z;injection Z with s _;omega
  by_cases x:j=d;·subst x;rw[hb]at a;injection a with a;injection a with _ a;subst a;exact⟨.inl rfl,by rw[S];exact h3⟩
  have b6:l=n:=r.trans h1;subst b6;have⟨D,H⟩:=E j y x hj a;exact⟨.inr D,aa⟩
 refine⟨m,⟨?_,?_,?_,?_,?_,?_,?_,?_,?_,?_,?_,?_⟩,⟨bb,bc,bv,?_,?_⟩⟩
 .intro j hj;rw[e]at hj⊢;by_cases e0:j=O.next
  .subst e0;rw[aF rfl];refine⟨b2,x2,ob2,aP.eA ..,?_,hr⟩;rcases b with⟨h1,h2⟩|⟨h1,h2,_⟩;·rw[h2,h1];simp
   rw[h2,h1,ahL];simp[hl]
  rw[an e0]at hj⊢;have p:=f j e0 hj;have⟨l,y,oc,X,c',r,L⟩:=h.aE p;have A:OR B J (if j=d then(bR.cells M W x false aK nt)else O.get j) y oc:=by
   by_cases s:j=d;·subst s;rw[aF rfl];rw[hi]at L;cases oc<;>simp only[OR]at L⊢;exact⟨L.1,L.2.1,L.2.2.1,λh=>by cases h⟩
   rw[an s];exact L
  rcases b with⟨h1,h2⟩|⟨h1,h2,h3,cs,R,el,fr,D,H,g3,g4⟩;·exact⟨l,y,oc,(m _ _ X).1,by rw[h2,aiA,an aa];exact r,OR.mono m A⟩
  by_cases e4:l=n
  .subst e4;rw[r]at D;injection D with D;subst D;refine⟨l,y,ob2,(m _ _ X).1,by rw[h2,ahL];simp[hl],OR.mono m ?_⟩;subst H;have cE:y+(O.get j).len<=ty+W:=by
    by_cases s:j=d;·subst s;rw[hb]at X;injection X with X;injection X with _ X;rw[S];omega
    exact(E j y s p X).2
   have T:(if j=d then(bR.cells M W x false aK nt)else O.get j).jO=true:=by
    by_cases s:j=d;·rw[aF s];rfl
    rw[an s];exact(h.aK j d (by rw[I];exact(E j y s p X).1)).2 p
   have aw:=(c j).2;generalize(if j=d then(bR.cells M W x false aK nt)else O.get j)=oj at A T aw;cases oj with
   |cells c5 n5 e5 b7 p5 f5=>
    simp only[OR]at A⊢;have⟨k1,k2,k3,k4⟩:=A;have dm:n5=(O.get j).len:=aw;have b':b7=false:=by simpa[bR.jO]using T
    refine⟨k1,aa,λt ht=>?_,λh=>by rw[b']at h;cases h⟩;have⟨v,hv,ca⟩:=k3 t ht;exact⟨v,by rw[g4 _ aa];exact hv,ca⟩
   |_=>simp[bR.jO]at T
  exact⟨l,y,oc,(m _ _ X).1,by rw[h2,ahL,an (λh=>e4 h.symm)];exact r,OR.mono m A⟩
 .intro j ds l y z a' hj u a ek;rw[e]at hj u;rw[e,e];by_cases o:j=O.next
  .subst o;have e2:ds≠O.next:=λh=>a' h.symm;rw[an e2]at u⊢;rw[aF rfl];have G:=f ds e2 u;simp only[aP.add,an e2]at ek;rw[aP.eA]at a;injection a with a;injection a with cd cf;have⟨D,H⟩:=av ds l z G ek cd.symm;right;refine⟨?_,?_⟩
   .rcases D with g|g;·rw[g];exact acj ..
    exact ab8 _ g
   rw[(c ds).2,<-cf];exact H
  by_cases e2:ds=O.next
  .subst e2;rw[an o]at hj⊢;rw[aF rfl];have p:=f j o hj;simp only[aP.add,an o]at a;rw[aP.eA]at ek;injection ek with ek;injection ek with cn cp;have⟨D,H⟩:=av j l y p a cn.symm;left;refine⟨?_,?_⟩
   .show j∈d::aK;rcases D with g|g;·rw[g];exact acj ..
    exact ab8 _ g
   rw[(c j).2,<-cp];exact H
  rw[an o]at hj⊢;rw[an e2]at u⊢;have p:=f j o hj;have G:=f ds e2 u;simp only[aP.add,an o,an e2]at a ek;rw[(c j).1,(c j).2,(c ds).1,(c ds).2];exact h.jC j ds l y z a' p G a ek
 .intro j ds u;rw[e]at u;rw[e];have a1:((O.set d (.cells M W x false aK nt)).new (.cells c2 n2 e2 true (d::aK) fz2)).next.ap=O.next.ap+1:=by show(O.next.succ).ap=_;exact ah.eP _
  rw[a1];by_cases e2:ds=O.next
  .rw[aF e2]at u;have G:j∈d::aK:=u;rcases ac2.1 G with g|g;·subst g;have:=h.A0 C;refine⟨aa,λ_=>?_⟩;rw[an b0,aF rfl];rfl
   obtain⟨D,H⟩:=h.aK j d (by rw[I];exact g);refine⟨aa,λhj=>?_⟩;have o:j≠O.next:=λx=>by subst x;omega
   rw[an o]at hj⊢;by_cases s:j=d;·rw[aF s];rfl
   rw[an s]at hj⊢;exact H hj
  rw[an e2,(c ds).1]at u;have⟨D,H⟩:=h.aK j ds u;refine⟨aa,λhj=>?_⟩;have o:j≠O.next:=λx=>by subst x;omega
  rw[an o]at hj⊢;by_cases s:j=d;·rw[aF s];rfl
  rw[an s]at hj⊢;exact H hj
 .intro j l y hj Q a;rw[e]at hj Q;by_cases o:j=O.next
  .subst o;rw[aP.eA]at a;injection a with a;injection a with a _;rcases b with⟨h1,_⟩|⟨h1,_⟩;·exact(h.new l aa).1
   rw[<-a,h1];exact a6
  rw[an o]at hj Q;simp only[aP.add,an o]at a;by_cases s:j=d;·rw[aF s]at Q;cases Q
  rw[an s]at hj Q;exact h.wr j l y hj Q a
 .intro j hj;have p:O.next.succ.ap<=j.ap:=hj;rw[ah.eP]at p;have o:j≠O.next:=λx=>by subst x;omega
  have s:j≠d:=λx=>by subst x;have:=h.A0 C;omega
  rw[e,an o,an s];have⟨D,H⟩:=h.du j aa;exact⟨D,by simp[aP.add,o,H]⟩
 .intro ds u;refine h.new ds ?_;rcases b with⟨_,h2⟩|⟨_,h2,_⟩;·rw[h2]at u;simp at u;omega
  rw[h2]at u;simpa using u
 .intro g hg;exact(m _ _ (h.kR g hg)).1
 .intro j l y oc hj a r;rw[e]at hj⊢;by_cases e0:j=O.next
  .subst e0;rw[aP.eA]at a;injection a with a;injection a with a _;subst a;rw[aF rfl,aP.sF];have:oc=ob2:=by
    rcases b with⟨h1,h2⟩|⟨h1,h2,_⟩;·rw[h2,h1,aiA,aF rfl]at r;injection r with r;exact r.symm
    rw[h2,h1,ahL]at r;simp only[hl,bg,aa9]at r;exact r.symm
   rw[this];exact hq
  rw[an e0]at hj⊢;have p:=f j e0 hj;simp only[aP.add,an e0]at a;rw[show(J.add O.next b2 x2 q).k l=J.k l from(m _ _ a).2];have b4:=h.ef j l y a;have⟨b3,y',ax,ag,_,K,_⟩:=h.aE p;rw[a]at ag;injection ag with ag;injection ag with cv cx;subst cv;subst cx;have V:=h.iK j l y ax p a K;have eg:eQ B (J.k l) (if j=d then(bR.cells M W x false aK nt)else O.get j) ax:=by
   by_cases s:j=d;·subst s;rw[aF rfl];rw[hi]at V;cases ax<;>exact V
   rw[an s];exact V
  rcases b with⟨h1,h2⟩|⟨h1,h2,h3,cs,R,el,fr,D,H,g3,g4⟩;·rw[h2,aiA,an aa,K]at r;injection r with r;rw[<-r];exact eg
  rw[h2,ahL]at r;by_cases e4:n=l;·subst e4;simp only[hl,bg,aa9]at r;rw[K]at D;injection D with D;subst D;rw[<-r,H];generalize(if j=d then(bR.cells M W x false aK nt)else O.get j)=oj at eg;cases oj<;>simp only[eQ]at eg⊢;rw[g3];exact eg
  rw[an e4,K]at r;injection r with r;rw[<-r];exact eg
 .intro j l y a;by_cases o:j=O.next
  .subst o;rw[aP.eA]at a;injection a with a;injection a with a _;rcases b with⟨h1,h2⟩|⟨h1,h2,_⟩;·rw[h2,Array.size_push];omega
   rw[h2,Array.size_setIfInBounds];omega
  simp only[aP.add,an o]at a;have:=h.ef j l y a;rcases b with⟨h1,h2⟩|⟨h1,h2,_⟩;·rw[h2,Array.size_push];omega
  rw[h2,Array.size_setIfInBounds];omega
 .intro j l y hj a;rw[e]at hj;by_cases o:j=O.next
  .subst o;rw[aP.eA]at a;injection a with a;injection a with a _;rcases b with⟨h1,_⟩|⟨h1,_⟩;·exact(h.new l aa).2
   rw[<-a,h1];exact h.rd d n ty C hb
  rw[an o]at hj;simp only[aP.add,an o]at a;exact h.rd j l y (f j o hj) a
 .intro j hj;have⟨h1,h2,h3⟩:=h.un j hj;have ay:j≠O.next:=λx=>by subst x;omega
  have Y:j≠d:=λx=>C (by rw[<-x];exact h1);refine⟨by rw[e,an ay,an Y];exact h1,?_,λds u=>?_⟩;·show j.ap<O.next.succ.ap;rw[ah.eP];omega
  rw[e]at u;by_cases e2:ds=O.next
  .rw[aF e2]at u;have G:j∈d::aK:=u;rcases ac2.1 G with g|g;·exact Y g
   exact h3 d (by rw[I];exact g)
  rw[an e2,(c ds).1]at u;exact h3 ds u
 .intro j hj;have⟨h1,h2⟩:=h.dJ j hj;have ay:j≠O.next:=λx=>by have:=(h.un j h1).2.1;subst x;omega
  exact⟨h1,by simp[aP.add,ay,h2]⟩
 .rcases b with⟨_,h2⟩|⟨_,h2,_⟩<;>rw[h2]<;>simp
 intro ds u cy;rcases b with⟨_,h2⟩|⟨_,h2,_⟩;·rw[h2,aiA,an aa]
 have:ds≠n:=λx=>cy (x▸a6);rw[h2,ahL,an (λh=>this h.symm)]
mutual
theorem A6(ρ:aP):∀(v:Value)(a:AV),jM v=some a->VR ρ a v
 |.bool b,a,h=>by grind[jM,Option.some.injEq,VR]
 |.int k n,a,h=>by grind[jM,Option.some.injEq,VR]
 |.string s,a,h=>by grind[jM,Option.some.injEq,VR]
 |.pointer none,a,h=>by grind[jM,Option.some.injEq,VR]
 |.slice none 0 0,a,h=>by grind[jM,Option.some.injEq,VR]
 |.map none,a,h=>by grind[jM,Option.some.injEq,VR]
 |.nilFunc,a,h=>by grind[jM,Option.some.injEq,VR]
 |.nilIface,a,h=>by grind[jM,Option.some.injEq,VR]
 |.func (.func f) x y,a,h=>by
  simp only[jM]at h
  split at h
  .rename_i l m hl d
   injection h with h;subst h
   simp only[VR]
   exact⟨trivial,y6 ρ x.toList l hl,y6 ρ y.toList m d⟩
  grind
 |.agg l,a,h=>by
  simp only[jM,ae2]at h
  obtain⟨m,d,h⟩:=h;subst h
  exact y6 ρ l.toList m d
 |.tuple l,a,h=>by
  simp only[jM,ae2]at h
  obtain⟨m,d,h⟩:=h;subst h
  exact y6 ρ l.toList m d
 |.iface t v,a,h=>by
  simp only[jM,ae2]at h
  obtain⟨m,d,h⟩:=h;subst h
  simp only[VR];exact⟨trivial,A6 ρ v m d⟩
 |.float ..,a,h=>by trivial
 |.complex ..,a,h=>by trivial
 |.pointer (some _),a,h=>by trivial
 |.slice (some _) _ _,a,h=>by trivial
 |.slice none (_+1) _,a,h=>by trivial
 |.slice none 0 (_+1),a,h=>by trivial
 |.map (some _),a,h=>by trivial
 |.chan _,a,h=>by trivial
 |.func (.method _) _ _,a,h=>by trivial
 |.func (.methodOf ..) _ _,a,h=>by trivial
 |.func (.via ..) _ _,a,h=>by trivial
 |.func (.yield _) _ _,a,h=>by trivial
theorem y6(ρ:aP):∀(l:List Value)(m:List AV),sC l=some m->be ρ m l
 |[],m,h=>by simp_all[sC,aa9,be]
 |v::l,m,h=>by
  simp only[sC]at h
  split at h
  .rename_i a b d e
   injection h with h;subst h
   exact⟨A6 ρ v a d,y6 ρ l b e⟩
  grind
end
section fI
theorem VR.l7(h:VR J (.aD d x) I):∃b a,J d=some (b,a)/\I=.pointer (some ⟨b,a+x,none⟩):=by
 cases I with
 |pointer p=>cases p with|none=>trivial|some p=>simp_all[VR]
 |_=>trivial
theorem VR.A7(h:VR J .j5 I):I=.pointer none:=by grind[VR]
theorem VR.pj(h:VR J (.bool Z) I):I=.bool Z:=by cases I<;>simp only[VR]at h;grind
theorem VR.i6{n:Int}(h:VR J (.int x n) I):∃a,x=kc a/\I=.int a n:=by cases I<;>simp only[VR]at h;grind
theorem VR.mQ(h:VR J (.str v) I):∃t:ByteArray,t.data.toList.map aiJ=v/\I=.string t:=by cases I<;>simp only[VR]at h;grind
theorem VR.l8(h:VR J (.slice d W n x Z) I):∃ad a,I=.slice (some ad) n a/\n<=x/\x<=a/\(Z=true->a=x)/\∃b e,J d=some (b,e)/\(a≠0->ad=⟨b,e+W,none⟩)/\(Z=false->e+W+a*(J.k b).2<=(J.k b).1):=by
 cases I with
 |slice p f a=>cases p with|none=>trivial|some p=>grind[VR]
 |_=>trivial
theorem VR.lh(h:VR J .bj I):I=.slice none 0 0:=by grind[VR]
theorem VR.po(h:VR J (.map d) I):∃b,J d=some (b,0)/\I=.map (some b):=by
 cases I with
 |map p=>cases p with|none=>trivial|some p=>exact⟨p,h,rfl⟩
 |_=>trivial
theorem VR.sH(h:VR J .cP I):I=.map none:=by grind[VR]
theorem VR.rE(h:VR J (.agg X) I):∃cs:Array Value,be J X cs.toList/\I=.agg cs:=by cases I<;>simp only[VR]at h;grind
theorem VR.Pd(h:VR J (.tuple X) I):∃cs:Array Value,be J X cs.toList/\I=.tuple cs:=by cases I<;>simp only[VR]at h;grind
theorem VR.wB(h:VR J (.iface x L) I):∃a,VR J L a/\I=.iface x a:=by cases I<;>simp only[VR]at h;grind
theorem VR.y7(h:VR J .nilIface I):I=.nilIface:=by grind[VR]
theorem VR.A8{b:List AV}(h:VR J (.func x X b) I):∃a y:Array Value,be J X a.toList/\be J b y.toList/\I=.func (.func x) a y:=by cases I with|func fn a y=>cases fn<;>simp only[VR]at h;exact⟨a,y,h.2.1,h.2.2,by rw[h.1]⟩|_=>simp only[VR]at h
theorem VR.A9(h:VR J (.yield d) I):∃b,J d=some (b,0)/\I=.func (.yield b) #[] #[]:=by cases I with|func fn x y=>cases fn<;>simp only[VR]at h;exact⟨_,h.1,by rw[h.2.1,h.2.2]⟩|_=>simp only[VR]at h
theorem VR.wC(h:VR J .nilFunc I):I=.nilFunc:=by grind[VR]
end fI
theorem bS(h:B.underlying A=some y)(w:World):(underlying A).run B w=.ok y w:=by simp[h,underlying]
theorem HN(h:eW B A=some x):∃i,B.info? A=some i/\i.size=x:=by simp_all[eW,ae2]
theorem DN(h:ww B A=some x):∃i,B.info? A=some i/\i.bytes=x:=by simp_all[ww,ae2]
theorem wD{i:TypeInfo}(h:B.info? A=some i)(w:World):(typeInfo A).run B w=.ok i w:=by simp[h,typeInfo]
theorem iM(h:eW B A=some x)(w:World):(sizeOf A).run B w=.ok x w:=by have⟨i,h1,h2⟩:=HN h;simp[h1,h2,sizeOf,wD]
theorem Pe(h:jM I=some L):L.bk=true:=by
 cases L<;>first|rfl|skip
 unfold jM at h;grind[Option.map_eq_some_iff]
theorem HO(h:cU L.cells=true):L.bk=true:=by cases L<;>first|rfl|(simp[AV.cells,cU,AV.cY]at h)
theorem Pf(h:nJ B A=some L):∃i v,B.info? A=some i/\i.zero=some v/\jM v=some L:=by simp_all[nJ,abF]
theorem sI(h:nJ B A=some L):∃v,(∀w,(zeroValue A).run B w=.ok v w)/\(∀ρ,VR ρ L v)/\L.bk=true:=by have⟨i,v,h1,h2,h3⟩:=Pf h;exact⟨v,λw=>by simp[h1,h2,zeroValue,wD],λρ=>A6 ρ v L h3,Pe h3⟩
theorem y8(h:mO B A=some Z)(w:World):(isAgg A).run B w=.ok Z w:=by simp only[mO,ae2]at h;have⟨d,h1,h2⟩:=h;simp only[isAgg,Sem.run_bind,bS h1,Result.andThen_ok];cases d<;>simp_all
theorem wE{e:aJ}(b:fj B x S=some e)(h:gP J x M a.tmps)(i:bm B N J O F):VR J (gv M e) (a.eval S):=by
 cases S with
 |tmp t=>
  simp only[fj]at b;split at b;·rename_i d;injection b with b;subst b;exact h.2 t d
  grind
 |const v=>simp only[fj,ae2]at b;obtain⟨c,j,b⟩:=b;subst b;exact A6 J v c j
 |global g=>
  simp only[fj]at b;split at b;·rename_i d;injection b with b;subst b;exact⟨g,0,i.kR g d,rfl⟩
  grind
 |func f=>grind[fj,Option.some.injEq,gv,Act.eval,VR,be]
theorem wF(a:gP J x M C.tmps)(b:bm B N J O F):∀{l:List Operand}{ol:List aJ},l.mapM (fj B x)=some ol->be J (ol.map (gv M)) (l.map C.eval)|[],ol,h=>by simp_all[be]|f::l,ol,h=>by simp only[aiO,aeX,abF,ahe,aa9]at h;have⟨e,h1,d,h2,h3⟩:=h;subst h3;exact⟨wE h1 a b,wF a b h2⟩
def afa(B:Program)(s:Sem Value)(w:World)(Q:Value->World->Prop):Prop:=∃v w',s.run B w=.ok v w'/\Q v w'
def cM(B:Program)(b:cq)(ρ:aP)(w:World)(v:AV)(H':ai)(c:Value)(w':World):Prop:=
 ∃a,b9 ρ a/\VR a v c/\bm B b a H' w'/\dk b w w'
theorem cM.bI(a:bm B N J O F)(h:VR J L I):cM B N J F L O I F:=⟨J,b9.refl J,h,a,dk.refl N F⟩
theorem wG(b:bm P N J O w){m:List Value}(g:be J X m)(e n:Nat)(k:n=X.length)(a:List Value):b9 J (J.add O.next w.heap.size 0 ((m++a).length,(eW P e).getD 0))/\bm P N (J.add O.next w.heap.size 0 ((m++a).length,(eW P e).getD 0)) (O.new (.cells (cr X) n e true [] 0)) {w with heap:=w.heap.push (.cells (m++a).toArray e (0,0))}/\dk N w {w with heap:=w.heap.push (.cells (m++a).toArray e (0,0))}:=by have d:b9 J (J.add O.next w.heap.size 0 ((m++a).length,(eW P e).getD 0)):=aP.qi w.heap.size 0 _ (b.du O.next (aeE _)).2 (λj c y h l=>by have:=b.ef j c y h;omega);refine b.alloc _ (by rfl) aC rfl ?_;have f:=be.length g;simp only[OR];refine⟨trivial,by grind,λi hi=>?_,λ_ i _ _=>by simp⟩;grind[be.get,List.getElem?_append_left,nN,VR.mono,List.getD]
section
variable{P:Program}
def bC(P:Program)(b:cq)(ρ:aP)(w:World)(s:Sem Next)(v:AV)(H':ai):Prop:=
 ∃c w',(s.run P w=.ok (.value c) w'\/(s.run P w=.ok .skip w'/\c=undef))/\cM P b ρ w v H' c w'
theorem bC.val{c:Value}(h:l.run P F=.ok (.value c) w')(d:cM P N J F L O c w'):bC P N J F l L O:=⟨c,w',.inl h,d⟩
section
variable{b:cq}{ρ:aP}{H:ai}{w:World}{nt:Nat}{af:az AV}{a:Act}
structure dl(P:Program)(Wr:cq)(ρ:aP)(H:ai)(w:World)(nt:Nat)(af:az AV)(a:Act):Prop where
 E:gP ρ nt af a.tmps
 I:bm P Wr ρ H w
theorem dl.gv(h:dl P b ρ H w nt af a){x:Operand}{c:aJ}(d:fj P nt x=some c):VR ρ (gv af c) (a.eval x):=wE d h.E h.I
theorem HP(h:dl P b ρ H w nt af a)(c:D.op=.move S\/D.op=.assign S)(f:bK P nt D=some Q)(he:aH Q af H=some (L,O)):bC P b ρ w (execOp a.eval D) L O:=by
 have e:∃d,fj P nt S=some d/\Q=.bf d:=by rcases c with c|c<;>simp only[bK,c,aeX,abF,ahe,aa9]at f<;>obtain⟨d,h1,h2⟩:=f<;>exact⟨d,h1,h2.symm⟩
 obtain⟨d,h1,rfl⟩:=e;obtain⟨rfl,rfl⟩:=he;refine bC.val (c:=a.eval S) (w':=w) ?_ (cM.bI h.I (h.gv h1));rcases c with c|c<;>simp[execOp,c]
theorem Pg(h:dl P b ρ H w nt af a){c:Operand}(d:D.op=.pick c S Y)(e:bK P nt D=some Q)(he:aH Q af H=some (L,O)):bC P b ρ w (execOp a.eval D) L O:=by
 simp only[bK,d,aeX,abF,ahe,aa9]at e;obtain⟨j,h1,k,h2,l,h3,rfl⟩:=e;simp only[aH]at he;have f:=h.gv h1;split at he
 .rename_i t g;obtain⟨rfl,rfl⟩:=he;rw[g]at f;have i:=f.pj;refine bC.val (c:=if t then a.eval S else a.eval Y) (w':=w) (by simp[d,i,execOp,asBool]) (cM.bI h.I ?_);cases t;·exact h.gv h3
  exact h.gv h2
 grind
theorem Ph(h:dl P b ρ H w nt af a)(e:D.op=.alloc A)(f:bK P nt D=some Q)(he:aH Q af H=some (L,O)):bC P b ρ w (execOp a.eval D) L O:=by simp only[bK,e,aeX,abF,ahe,aa9]at f;obtain⟨z,h1,rfl⟩:=f;obtain⟨rfl,rfl⟩:=he;have⟨zv,g,c,d⟩:=sI h1;have⟨i,j,k⟩:=wG h.I (VR.cells (c ρ) d) A z.cells.length rfl [];refine bC.val (c:=.pointer (some ⟨w.heap.size,0,none⟩)) (w':={w with heap:=w.heap.push (.cells (zv.cells.toList++[]).toArray A (0,0))}) ?_ ⟨_,i,?_,j,k⟩;all_goals simp[e,g,execOp,Instr.alloc,newVar,newRow,VR,aP.eA]
theorem Pj(h:dl P b ρ H w nt af a)(d:D.op=.box A S)(e:bK P nt D=some Q)(he:aH Q af H=some (L,O)):bC P b ρ w (execOp a.eval D) L O:=by
 simp only[bK,d,aeX,abF,ahe,aa9]at e;obtain⟨j,h1,rfl⟩:=e;simp only[aH]at he;split at he;·rename_i c;obtain⟨rfl,rfl⟩:=he;have⟨f,g,i⟩:=wG h.I (VR.cells (h.gv h1) (HO c)) A _ rfl [];refine bC.val (c:=.pointer (some ⟨w.heap.size,0,none⟩)) (w':={w with heap:=w.heap.push (.cells ((a.eval S).cells.toList++[]).toArray A (0,0))}) ?_ ⟨_,f,?_,g,i⟩;all_goals simp[d,execOp,Instr.box,newVar,newRow,VR,aP.eA]
 grind
theorem HQ(t:bm P b ρ H w)(u:VR ρ L I)(hg:mO P A=some Z)(p:Z=true->eW P A=some x)(j:Z=false->x=1)(he:gW H L x Z=some r):∃M,I=.pointer (some M)/\∃N,(loadVar A M).run P w=.ok N w/\VR ρ r N:=by
 unfold gW at he;split at he
 .rename_i id off;obtain⟨M,K,hb,rfl⟩:=u.l7;refine⟨_,rfl,?_⟩;simp only[dE]at he;split at he
  .rename_i l hl;split at hl
   .rename_i I m e E aK fz hi;have k:H.get id≠.none:=by rw[hi];simp
    have⟨F,G,z,h,f,g,c⟩:=t.aE k;rw[hb]at h;injection h with h;injection h with B C;subst B;subst C;rw[hi]at c;cases z with
    |cells cs J fr=>
     have⟨d,D⟩:=A5 c hl;cases Z with
     |true=>
      simp only[bg,aa9]at he;subst he;rcases Nat.eq_zero_or_pos x with i|i
      .subst i;refine⟨.agg #[],?_,?_⟩;·simp[loadVar,y8 hg,iM (p rfl),loadCells,loadCellsFrom]
       simp only[VR];simpa using d
      refine⟨.agg ((cs.toList.drop (K+off)).take x).toArray,?_,by simp only[VR];simpa using d⟩;simp only[loadVar,Sem.run_bind,y8 hg,Result.andThen_ok,bg,iM (p rfl),yX w g (K+off) x (D i),Sem.run_pure]
     |false=>
      have:=j rfl;subst this;simp only[abH,bF]at he;obtain⟨y,s⟩:∃y,cs[K+off]?=some y:=⟨cs[K+off],aC⟩;have n:(cs.toList.drop (K+off)).take 1=[y]:=by
       have f:K+off<cs.toList.length:=by simp;omega
       rw[ahp f];simp only[aiu,aiB];have:cs.toList[K+off]=y:=by simpa[Array.getElem?_eq_getElem (show K+off<cs.size by omega)]using s
       rw[this]
      rw[n]at d;cases l with|nil=>simp[be]at d|cons q l=>simp only[List.head?_cons,aa9]at he;subst he;refine⟨y,?_,d.1⟩;simp only[loadVar,Sem.run_bind,y8 hg,Result.andThen_ok,abH,bF];exact Pb w (by rw[DK w g];exact s)
    |_=>simp[OR]at c
   cases hl
  cases he
 cases he
theorem Pk(h:dl P b ρ H w nt af a)(f:D.op=.load A S)(c:bK P nt D=some Q)(he:aH Q af H=some (L,O)):bC P b ρ w (execOp a.eval D) L O:=by
 simp only[bK,f,aeX,abF,ahe,aa9]at c;have⟨g,hg,c⟩:=c;have key:∃d n,fj P nt S=some d/\(g=true->eW P A=some n)/\(g=false->n=1)/\∃q,gW H (gv af d) n g=some q/\L=q/\O=H:=by cases g with|true=>simp only[bg,abF,aa9]at c;obtain⟨n,i,d,h1,rfl⟩:=c;simp only[aH,ae2,afm]at he;obtain⟨q,e,rfl,rfl⟩:=he;exact⟨d,n,h1,λ_=>i,aC,_,e,rfl,rfl⟩|false=>simp only[abH,bF,abF,aa9]at c;obtain⟨d,h1,rfl⟩:=c;simp only[aH,ae2,afm]at he;obtain⟨q,e,rfl,rfl⟩:=he;exact⟨d,1,h1,aC,λ_=>rfl,_,e,rfl,rfl⟩
 obtain⟨d,n,h1,h2,h3,q,e,rfl,rfl⟩:=key;have⟨l,hb,r,j,k⟩:=HQ h.I (h.gv h1) hg h2 h3 e;exact bC.val (c:=r) (w':=w) (by simp[f,hb,j,execOp,Instr.loadAt,Instr.sureAddr]) (cM.bI h.I k)
theorem Pl(h:gF H d x X=some O):cU X=true:=by unfold gF at h;grind
theorem Pm(h:dl P b ρ H w nt af a)(e:D.op=.store A Y S)(f:bK P nt D=some Q)(he:aH Q af H=some (L,O)):bC P b ρ w (execOp a.eval D) L O:=by
 simp only[bK,e,aeX,abF,ahe,aa9]at f;obtain⟨n,j,r,h1,s,h2,rfl⟩:=f;simp only[aH]at he;have g:=h.gv h1;split at he
 .rename_i id off k;rw[k]at g;split at he
  .split at he
   .rename_i t i;obtain⟨rfl,rfl⟩:=he;have⟨u,z,hb,l⟩:=g.l7;have c:=VR.cells (h.gv h2) (HO (Pl i));have⟨m,p,q⟩:=yZ h.I i hb c;have d:(a.eval S).cells.size=n:=by have:=be.length c;simp at this;omega
    refine⟨undef,_,.inr ⟨?_,rfl⟩,⟨ρ,b9.refl ρ,VR.ai8 ρ,p,q⟩⟩;simp[e,l,j,d,m,execOp,Instr.storeAt,Instr.sureAddr,storeVar,iM]
   grind
  grind
 grind
end
end
theorem Pn(h:dl B N J O F x M C)(f:D.op=.nilCheck S)(g:bK B x D=some Q)(he:aH Q M O=some (L,V)):bC B N J F (execOp C.eval D) L V:=by
 simp only[bK,f,aeX,abF,ahe,aa9]at g;obtain⟨j,h1,rfl⟩:=g;simp only[aH]at he;have e:=h.gv h1;split at he<;>(try cases he)<;>rename_i i<;>rw[i]at e;·have⟨b,z,hb,c⟩:=e.l7;exact bC.val (by simp[f,c,execOp]) (cM.bI h.I (c▸e))
 .have⟨k,l,_,_,c⟩:=e.A8;exact bC.val (by simp[f,c,execOp]) (cM.bI h.I (c▸e))
 .have⟨b,hb,c⟩:=e.A9;exact bC.val (by simp[f,c,execOp]) (cM.bI h.I (c▸e))
 .have⟨y,_,c⟩:=e.wB;exact bC.val (by simp[f,c,execOp]) (cM.bI h.I (c▸e))
 .have⟨b,hb,c⟩:=e.po;exact bC.val (by simp[f,c,execOp]) (cM.bI h.I (c▸e))
 have⟨ad,m,c,_⟩:=e.l8;exact bC.val (by simp[f,c,execOp]) (cM.bI h.I (c▸e))
theorem qj(k:IntKind):ck (kc k)=k:=by cases k<;>rfl
theorem ul{j k:IntKind}(h:kc j=kc k):j=k:=by have:=congrArg ck h;grind[qj]
theorem dW(a b:Int):gz a b=(a==b):=by
 cases a with
 |ofNat m=>cases b with|ofNat n=>show ahr m n=_;rw[aiI];simp;omega|negSucc n=>show false=_;symm;rw[beq_eq_false_iff_ne];intro e;cases e
 |negSucc m=>cases b with|ofNat n=>show false=_;symm;rw[beq_eq_false_iff_ne];intro e;cases e|negSucc n=>show ahr m n=_;rw[aiI];simp
theorem li(a b:Int):j7 a b=decide (a<b):=by
 cases a with
 |ofNat m=>cases b with|ofNat n=>show ahO m n=_;rw[aiI];simp[ahO];omega|negSucc n=>show false=_;symm;simp only[decide_eq_false_iff_not,ag0];omega
 |negSucc m=>cases b with|ofNat n=>show true=_;symm;simp only[decide_eq_true_eq,ag0];omega|negSucc n=>show ahO n m=_;rw[aiI];simp[ahO];omega
theorem y9(n:Int)(h1: -9223372036854775808<=n)(h2:n<9223372036854775808):IntKind.i64.wrap n=n:=by unfold IntKind.wrap IntKind.signed IntKind.bits;grind
theorem Po(n:Int)(h1:0<=n)(h2:n<256):IntKind.u8.wrap n=n:=by unfold IntKind.wrap IntKind.signed IntKind.bits;grind
theorem um(k:IntKind)(n:Int):gf (kc k) n=k.wrap n:=by
 have b:k7 (kc k) n=k.wrap n:=by rw[k7,qj]
 unfold gf;split
 .rename_i m e;split
  .rename_i f;have c:k=.i64:=by cases k<;>simp[kc]at e⊢
   subst c;have:m<9223372036854775808:=ahC (Nat.lt_succ_self m) (aht f);exact(y9 _ (by simp only[ag0];omega) (by simp only[ag0];omega)).symm
  rw[e]at b;exact b
 .rename_i m e;split
  .rename_i f;have c:k=.i64:=by cases k<;>simp[kc]at e⊢
   subst c;have:m<9223372036854775808:=ahC (Nat.lt_succ_self m) (aht f);exact(y9 _ aa aa).symm
  rw[e]at b;exact b
 .rename_i m e;split
  .rename_i f;have c:k=.u8:=by cases k<;>simp[kc]at e⊢
   subst c;have:m<256:=ahC (Nat.lt_succ_self m) (aht f);exact(Po _ (by simp only[ag0];omega) (by simp only[ag0];omega)).symm
  rw[e]at b;exact b
 omega
theorem sJ:∀(a b:List Nat),iG a b=(a==b)|[],[]=>rfl|[],_::_=>rfl|_::_,[]=>rfl|a::l,b::m=>by rw[iG,sJ l m];rw[aiI];simp
theorem Pp{k:IntKind}{x y:Int}(h:fO op (kc k) x y=some L)(b:op≠.shl/\op≠.shr)(t:TypeId)(w:World):∃c,(binOp op t (.int k x) (.int k y)).run P w=.ok c w/\VR ρ L c:=by
 cases op<;>simp only[fO]at h<;>(try cases h)<;>(try(exact absurd rfl b.1))<;>(try(exact absurd rfl b.2));·simp[binOp,Op.intArith,VR,um]
 .simp[binOp,Op.intArith,VR,um]
 .simp[binOp,Op.intArith,VR,um]
 .split at h;·grind
  rename_i e;injection h with h;subst h;simp[e,binOp,Op.intDiv,VR,um]
 .split at h;·grind
  rename_i e;injection h with h;subst h;simp[e,binOp,Op.intDiv,VR]
 .simp[aik,binOp,Op.intBits,VR,k7,qj]
 .simp[aik,binOp,Op.intBits,VR,k7,qj]
 .simp[aik,binOp,Op.intBits,VR,k7,qj]
 .simp[aik,binOp,Op.intBits,VR,k7,qj]
 .simp[bool,binOp,Op.intCmp,VR,dW]
 .simp[bool,binOp,Op.intCmp,VR,dW,bne]
 .simp[bool,decide,binOp,Op.intCmp,VR,li]
 .exact⟨.bool (decide (x<=y)),by simp[binOp,Op.intCmp],by simp only[VR,li];grind⟩
 .simp[bool,decide,binOp,Op.intCmp,VR,li]
 exact⟨.bool (decide (y<=x)),by simp[binOp,Op.intCmp],by simp only[VR,li];grind⟩
theorem DO(op:BinOp)(t:TypeId)(x y:Operand)(k b:IntKind)(m n:Int)(w:World):(eqGuard op t x y (.int k m) (.int b n)).run B w=.ok () w:=by simp[eqGuard]
theorem Pq(h:dl P N ρ O F x M C){k:IntKind}(t:D.op=.binOp op A S Y f)(hu:P.underlying A=some (.int k))(b:op≠.shl/\op≠.shr)(p:bK P x D=some Q)(he:aH Q M O=some (L,V)):bC P N ρ F (execOp C.eval D) L V:=by
 have s:∃e g,fj P x S=some e/\fj P x Y=some g/\Q=.arith op (kc k) e g:=by simp only[bK,t,gD,hu,aeX,aiS]at p;cases op<;>simp only[abF,ahe,aa9]at p<;>first|(exact absurd rfl b.1)|(exact absurd rfl b.2)|(obtain⟨e,h1,g,h2,h3⟩:=p;exact⟨e,g,h1,h2,h3.symm⟩)
 obtain⟨e,g,h1,h2,rfl⟩:=s;simp only[aH,ae2,afm]at he;obtain⟨q,l,rfl,rfl⟩:=he;have u:=h.gv h1;have y:=h.gv h2;unfold yG at l;split at l
 .rename_i i m j n B E;split at l;·rename_i r;simp only[ahl]at r;have W:i=kc k:=ahn r.1;have X:j=kc k:=ahn r.2;rw[B]at u;rw[E]at y;have⟨z,Z,G⟩:=u.i6;have⟨J,ag,K⟩:=y.i6;have:z=k:=ul aa;subst this;have:J=z:=ul aa;subst this;have⟨c,R,T⟩:=Pp (P:=P) (ρ:=ρ) l b A F;exact bC.val (c:=c) (w':=F) (by simp[t,G,K,R,execOp,DO]) (cM.bI h.I T)
  grind
 grind
theorem Pr(h:dl B N J O F x M C){k:IntKind}(p:D.op=.binOp op A S Y f)(hu:B.underlying A=some (.int k))(l:op=.shl\/op=.shr)(t:bK B x D=some Q)(he:aH Q M O=some (L,V)):bC B N J F (execOp C.eval D) L V:=by
 have r:∃c e,fj B x S=some c/\fj B x Y=some e/\Q=.shift op c e:=by rcases l with rfl|rfl<;>simp only[bK,p,gD,hu,aeX,aiS,abF,ahe,aa9]at t<;>(obtain⟨c,h1,e,h2,h3⟩:=t;exact⟨c,e,h1,h2,h3.symm⟩)
 obtain⟨c,e,h1,h2,rfl⟩:=r;simp only[aH,ae2,afm]at he;obtain⟨q,b,rfl,rfl⟩:=he;have u:=h.gv h1;have y:=h.gv h2;unfold AJ at b;split at b
 .rename_i i m j n G K;rw[G]at u;rw[K]at y;have⟨g,s,z⟩:=u.i6;have⟨T,R,E⟩:=y.i6;subst s;rcases l with rfl|rfl;·simp only[aa9]at b;subst b;refine bC.val (c:=.int g (g.wrap (m*2^(min n g.bits)))) (w':=F) ?_ (cM.bI h.I (by simp[VR,um,qj]));simp[execOp,p,z,E,DO,binOp,Op.shift];omega
  simp only[aa9]at b;subst b;refine bC.val (c:=.int g (m.fdiv (2^(min n g.bits)))) (w':=F) ?_ (cM.bI h.I (by simp[VR,qj]));simp[execOp,p,z,E,DO,binOp,Op.shift];omega
 grind
section
variable{o:Oper}
theorem HR{x y:UInt8}(h:x.toNat=y.toNat):x=y:=UInt8.toNat_inj.1 h
theorem DP:∀{l m:List UInt8},l.map aiJ=m.map aiJ->l=m|[],[],_=>rfl|[],_::_,h=>by simp at h|_::_,[],h=>by simp at h|C::l,c::m,h=>by simp only[ahk,ahD]at h;rw[HR h.1,DP h.2]
theorem HS(s t:ByteArray):(s.toList==t.toList)=iG (s.data.toList.map aiJ) (t.data.toList.map aiJ):=by rw[ByteArray.toList_eq,ByteArray.toList_eq,sJ,aiI];simp only[beq_iff_eq];grind[DP]
theorem HT:∀(l m:List UInt8),Op.bytesLess l m=oZ (l.map aiJ) (m.map aiJ)
 |[],[]=>rfl
 |_::_,[]=>rfl
 |[],_::_=>rfl
 |C::l,e::m=>by
  simp only[Op.bytesLess,ahk,oZ,HT l m];have c:decide (C<e)=ahO C.toNat e.toNat:=by rw[aiI];simp[ahO,UInt8.lt_iff_toNat_lt];omega
  have d:(C==e)=ahr C.toNat e.toNat:=by rw[aiI];simp only[beq_iff_eq,Nat.beq_eq];exact⟨λh=>by rw[h],HR⟩
  grind
theorem DQ:∀(l m:List Nat),(oZ l m||iG l m)=!oZ m l
 |[],[]=>rfl
 |_::_,[]=>rfl
 |[],_::_=>rfl
 |C::l,f::m=>by
  simp only[oZ,iG];have:=DQ l m;rcases Nat.lt_trichotomy C f with h|h|h
  .have c:ahO C f=true:=by simp[ahO];omega
   have d:ahO f C=false:=by rw[Bool.eq_false_iff];simp[ahO];omega
   have e:ahr f C=false:=by rw[Bool.eq_false_iff];simp;omega
   grind
  .subst h;have c:ahO C C=false:=by rw[Bool.eq_false_iff];simp[ahO]
   simp_all
  have c:ahO C f=false:=by rw[Bool.eq_false_iff];simp[ahO];omega
  have d:ahO f C=true:=by simp[ahO];omega
  have e:ahr C f=false:=by rw[Bool.eq_false_iff];simp;omega
  grind
theorem Pt(s t:ByteArray):(s++t).data.toList=s.data.toList++t.data.toList:=by rfl
theorem Pu(op:BinOp)(t:TypeId)(x y:Operand)(m n:ByteArray)(w:World):(eqGuard op t x y (.string m) (.string n)).run B w=.ok () w:=by simp[eqGuard]
theorem Pv(h:dl B N J O F x M C)(p:o.op=.binOp op A S Y f)(hu:B.underlying A=some .string)(r:bK B x o=some Q)(he:aH Q M O=some (L,V)):bC B N J F (execOp C.eval o) L V:=by
 have n:∃i j,fj B x S=some i/\fj B x Y=some j/\Q=.kw op i j:=by cases op<;>simp only[bK,p,gD,hu,aeX,aiS,abF,ahe,aa9]at r<;>(obtain⟨i,h1,j,h2,h3⟩:=r;exact⟨i,j,h1,h2,h3.symm⟩)
 obtain⟨i,j,h1,h2,rfl⟩:=n;simp only[aH,ae2,afm]at he;obtain⟨q,d,rfl,rfl⟩:=he;have t:=h.gv h1;have u:=h.gv h2;unfold vY at d;split at d
 .rename_i l m y z;rw[y]at t;rw[z]at u;have⟨s,hs,D⟩:=t.mQ;have⟨t2,k,E⟩:=u.mQ;have e:Op.bytesLess s.toList t2.toList=oZ l m:=by rw[ByteArray.toList_eq,ByteArray.toList_eq,HT,hs,k]
  have g:(s.toList==t2.toList)=iG l m:=by rw[HS,hs,k]
  have key:∃c,(Op.stringOp op s t2).run B F=.ok c F/\VR J q c:=by
   have R:s.size=l.length:=by rw[<-hs,ahs,aia];rfl
   have T:t2.size=m.length:=by rw[<-k,ahs,aia];rfl
   cases op<;>simp only at d<;>(try cases d)
   .split at d
    .rename_i hb;injection d with d;subst d;refine⟨.string (s++t2),?_,?_⟩
     .simp only[Op.stringOp];rw[an];·rfl
      have:IntKind.i64.max=9223372036854775807:=bt;rw[this];omega
     simp only[VR];rw[Pt,ahx,hs,k]
    cases d
   .exact⟨_,rfl,by simp only[VR];exact g.symm⟩
   .exact⟨_,rfl,by simp only[VR];rw[g]⟩
   .exact⟨_,rfl,by simp only[VR];exact e.symm⟩
   .exact⟨_,rfl,by simp only[VR];rw[e,g,DQ]⟩
   .exact⟨_,rfl,by simp only[VR];rw[e,g,DQ];simp⟩
   exact⟨_,rfl,by simp only[VR];rw[e]⟩
  have⟨c,G,K⟩:=key;exact bC.val (c:=c) (w':=F) (by simp[execOp,p,D,E,Pu,binOp,G]) (cM.bI h.I K)
 grind
theorem Pw(h:dl B N J O F x M C){op:UnOp}(i:o.op=.unOp op A S)(l:bK B x o=some Q)(he:aH Q M O=some (L,V)):bC B N J F (execOp C.eval o) L V:=by
 simp only[bK,i,aeX,abF,ahe,aa9]at l;obtain⟨m,h1,rfl⟩:=l;simp only[aH,ae2,afm]at he;obtain⟨q,c,rfl,rfl⟩:=he;have e:=h.gv h1;unfold AL at c;split at c;·rename_i k n f;rw[f]at e;have⟨d,j,g⟩:=e.i6;subst j;injection c with c;subst c;exact bC.val (c:=.int d (d.wrap (0 - n))) (w':=F) (by simp[i,g,execOp,Op.unary,Op.intArith]) (cM.bI h.I (by simp[VR,um]))
 .rename_i k n f;rw[f]at e;have⟨d,j,g⟩:=e.i6;subst j;simp only[fO,qj,aa9]at c;subst c;refine bC.val (c:=.int d (d.wrap (aik d.bits (if d.signed then -1 else d.max)^^^aik d.bits n).toNat)) (w':=F) (by simp[i,g,execOp,Op.unary,Op.intBits]) (cM.bI h.I ?_);simp[VR,k7,qj]
 .rename_i p f;rw[f]at e;have g:=e.pj;injection c with c;subst c;exact bC.val (c:=.bool (!p)) (w':=F) (by simp[i,g,execOp,Op.unary]) (cM.bI h.I (by rfl))
 grind
theorem Px(h:dl B N J O F x M C)(g:o.op=.makeInterface A S)(c:bK B x o=some Q)(he:aH Q M O=some (L,V)):bC B N J F (execOp C.eval o) L V:=by
 simp only[bK,g,aeX,abF]at c;have⟨d,hd,c⟩:=c;have key:(∀m,d≠.interface m)/\∃f,fj B x S=some f/\Q=.mI A f:=by cases d<;>simp only[bg,abH,bF,abF,ahe,aa9]at c<;>first|(cases c;done)|(obtain⟨f,h1,h2⟩:=c;exact⟨(λm e=>by cases e),f,h1,h2.symm⟩)
 obtain⟨i,f,h1,rfl⟩:=key;obtain⟨rfl,rfl⟩:=he;refine bC.val (c:=.iface A (C.eval S)) (w':=F) ?_ (cM.bI h.I (by simp only[VR];exact⟨trivial,h.gv h1⟩));simp only[execOp,g,Instr.makeInterface,Sem.run_bind,bS hd,Result.andThen_ok];rfl
theorem Py(h:dl B N J O F x M C){f:FuncId}{e y:Array Operand}(c:o.op=.makeFunc (.func f) e y)(d:bK B x o=some Q)(he:aH Q M O=some (L,V)):bC B N J F (execOp C.eval o) L V:=by simp only[bK,c,sD,aeX,abF,ahe,aa9]at d;obtain⟨l,h1,m,h2,rfl⟩:=d;obtain⟨rfl,rfl⟩:=he;refine bC.val (c:=.func (.func f) (e.map C.eval) (y.map C.eval)) (w':=F) (by simp[c,execOp,Instr.makeFunc]) (cM.bI h.I ?_);simp only[VR,Array.toList_map];exact⟨trivial,wF h.E h.I h1,wF h.E h.I h2⟩
theorem Pz(h:dl B N J O F x M C)(c:o.op=.makeMap A none)(d:bK B x o=some Q)(he:aH Q M O=some (L,V)):bC B N J F (execOp C.eval o) L V:=by simp only[bK,c,ahe,aa9]at d;subst d;obtain⟨rfl,rfl⟩:=he;have⟨e,f,g⟩:=h.I.alloc (o:=.map [] 0) (ob:=.map #[] 0) (0,0) (by trivial) aC rfl (by trivial);exact bC.val (c:=.map (some F.heap.size)) (w':={F with heap:=F.heap.push (.map #[] 0)}) (by simp[c,execOp,Instr.makeMap]) ⟨_,e,by simp[VR,aP.eA],f,g⟩
theorem uo(hl:be J X E.toList)(hg:mO P A=some Z)(hs:eW P A=some W)(d:pX Z X x W=some L):∃c,(part A E x).run P w=.ok c w/\VR J L c:=by unfold pX at d;cases Z with|true=>simp only[bg,aa9]at d;subst d;simp[hg,hs,hl,part,y8,iM,VR,Array.toList_extract,List.extract_eq_drop_take,be.take,be.drop]|false=>simp only[abH,bF,List.head?_drop]at d;have⟨c,h1,h2⟩:=be.get hl x L d;simp_all[part,y8]
theorem PA(h:dl P N J O w x M C)(m:o.op=.field A S W)(e:bK P x o=some Q)(he:aH Q M O=some (L,V)):bC P N J w (execOp C.eval o) L V:=by
 simp only[bK,m,aeX,abF]at e;have⟨d,hd,e⟩:=e;split at e
 .simp only[abF,ahe,aa9]at e;obtain⟨f,p,g,hg,s,hs,z,h1,rfl⟩:=e;simp only[aH]at he;have n:=h.gv h1;split at he;·rename_i l r;simp only[ae2,afm]at he;obtain⟨q,t,rfl,rfl⟩:=he;rw[r]at n;have⟨cs,j,u⟩:=n.rE;have⟨c,y,k⟩:=uo (P:=P) (w:=w) j hg hs t;exact bC.val (c:=c) (w':=w) (by simp[execOp,m,Instr.field,bS hd,p,u,asAgg,y]) (cM.bI h.I k)
  grind
 grind
theorem PB(h:dl B N J O F x M C)(g:o.op=.fieldAddr A S W)(c:bK B x o=some Q)(he:aH Q M O=some (L,V)):bC B N J F (execOp C.eval o) L V:=by
 simp only[bK,g,aeX,abF]at c;have⟨d,hd,c⟩:=c;split at c
 .simp only[abF]at c;have⟨f,k,s,hs,c⟩:=c;split at c;·grind
  rename_i e;simp only[abF,ahe,aa9]at c;obtain⟨n,h1,rfl⟩:=c;simp only[aH]at he;have j:=h.gv h1;split at he;·rename_i id off l;obtain⟨rfl,rfl⟩:=he;rw[l]at j;have⟨p,z,hb,m⟩:=j.l7;refine bC.val (c:=.pointer (some ⟨p,z+off+f.offset,none⟩)) (w':=F) ?_ (cM.bI h.I (by simp[hb,VR,aiD]));simp[execOp,g,Instr.fieldAt,bS hd,k,m,Instr.sureAddr,fieldPlace,iM hs,e,sG]
  grind
 grind
theorem PC(h:dl B N J O F W M C)(k:o.op=.extract S x)(f:bK B W o=some Q)(he:aH Q M O=some (L,V)):bC B N J F (execOp C.eval o) L V:=by
 simp only[bK,k,aeX,abF,ahe,aa9]at f;obtain⟨r,h1,rfl⟩:=f;simp only[aH]at he;have g:=h.gv h1;split at he
 .rename_i l m;simp only[ae2,afm]at he;obtain⟨q,j,rfl,rfl⟩:=he;rw[m]at g;have⟨cs,d,s⟩:=g.Pd;have e:∀(l:List AV)(x:Nat),nI l x=l[x]?:=by intro l;induction l with|nil=>intro x;simp[nI]|cons y l n=>intro x;cases x with|zero=>simp[nI]|succ x=>simp[nI,n]
  rw[e]at j;have⟨c,t,p⟩:=be.get d x q j;exact bC.val (c:=c) (w':=F) (by simp_all[execOp,Instr.extract]) (cM.bI h.I p)
 grind
end
theorem PD(h:dl B N J O F x M C)(p:D.op=.indexAddr A S Y)(c:bK B x D=some Q)(he:aH Q M O=some (L,V)):bC B N J F (execOp C.eval D) L V:=by
 simp only[bK,p,aeX,abF]at c;have⟨d,hd,c⟩:=c;split at c
 .rename_i n e;simp only[abF,ahe,aa9]at c;obtain⟨s,hs,t,h1,u,h2,rfl⟩:=c;simp only[aH]at he;have g:=h.gv h1;have l:=h.gv h2;split at he
  .rename_i id off k j q hj;split at he
   .rename_i f;obtain⟨rfl,rfl⟩:=he;rw[q]at g;rw[hj]at l;have⟨X,z,hb,r⟩:=g.l7;have⟨y,_,hi⟩:=l.i6;have m:j<n:=by simpa[ahO,Nat.succ_le_iff]using f
    refine bC.val (c:=.pointer (some ⟨X,z+off+j*s,none⟩)) (w':=F) ?_ (cM.bI h.I (by simp[hb,VR,aiD]));simp[execOp,p,Instr.indexAt,hi,asIntOf,bS hd,r,Instr.sureAddr,iM hs,sG];omega
   grind
  grind
 .simp only[abF,ahe,aa9]at c;obtain⟨s,hs,t,h1,u,h2,rfl⟩:=c;simp only[aH]at he;have g:=h.gv h1;have l:=h.gv h2;split at he
  .rename_i id off len cap ex k j q hj;split at he
   .rename_i f;obtain⟨rfl,rfl⟩:=he;rw[q]at g;rw[hj]at l;have⟨ad,G,r,K,R,T,X,z,hb,E,W⟩:=g.l8;have⟨y,_,hi⟩:=l.i6;have m:j<len:=by simpa[ahO,Nat.succ_le_iff]using f
    have:=E aa;subst this;refine bC.val (c:=.pointer (some ⟨X,z+off+j*s,none⟩)) (w':=F) ?_ (cM.bI h.I (by simp[hb,VR,aiD]));simp[execOp,p,Instr.indexAt,hi,asIntOf,bS hd,r,iM hs,sG];omega
   grind
  grind
 grind
theorem HV:∀(l:List Nat)(i:Nat),yH l i=l[i]?|[],i=>by rfl|C::l,0=>by rfl|C::l,i+1=>by simp[yH,HV l i]
theorem PE(h:dl B N J O F x M C)(m:D.op=.index A S Y)(c:bK B x D=some Q)(he:aH Q M O=some (L,V)):bC B N J F (execOp C.eval D) L V:=by
 simp only[bK,m,aeX,abF]at c;have⟨d,hd,c⟩:=c;split at c
 .simp only[abF,ahe,aa9]at c;obtain⟨K,h1,R,h2,rfl⟩:=c;simp only[aH]at he;have p:=h.gv h1;have r:=h.gv h2;split at he
  .rename_i s k j y hj;simp only[ae2,afm]at he;obtain⟨q,⟨n,f,rfl⟩,rfl,rfl⟩:=he;rw[y]at p;rw[hj]at r;have⟨g,z,E⟩:=p.mQ;have⟨T,_,hi⟩:=r.i6;rw[HV,<-z,ahB,ae2]at f;have⟨u,hu,f⟩:=f;have l:g[j]?=some u:=by
    have:j<g.size:=by have:=ahY.1 hu;have⟨t,_⟩:=this;simpa using t
    rw[getElem?_pos g j this];have e:=ahY.1 hu;have⟨t,G⟩:=e;rw[<-G];rfl
   refine bC.val (c:=.int .u8 u.toNat) (w':=F) ?_ (cM.bI h.I (by simp[f,VR,kc]));simp[execOp,m,Instr.index,hi,asIntOf,bS hd,E,l]
  grind
 grind
theorem Ba(e:VR J L I)(h:lF L x=some W)(f:x<=n)(code:Go.BoundsCode)(w:World):(Instr.sliceBound I n code).run P w=.ok W w/\W<=x:=by
 unfold lF at h;split at h
 .rename_i k i;split at h;·rename_i c;injection h with h;subst h;obtain⟨g,_,rfl⟩:=e.i6;have d:i<=x:=aht c;simp[Instr.sliceBound,asIntOf];omega
  grind
 grind
theorem PF{d:Type}(c:Prop) [Decidable c](x y:d):(if c then some x else some y)=some (if c then x else y):=by grind
theorem HW(h:dl P N J O F fz2 M C){lo hi d:Option Operand}{l m p:Option aJ}(h1:pd P fz2 lo=some l)(h2:pd P fz2 hi=some m)(h3:pd P fz2 d=some p)(u:jA M p n n=some x)(k:jA M m n2 x=some W)(A:jA M l 0 W=some e2)(q:n<=ty)(t:d.isSome=true->hi.isSome=true)(G:d=none->hi=none->n2<=n)(c:Bool):(Instr.sliceBounds c n2 ty (lo.map C.eval) (hi.map C.eval) (d.map C.eval)).run P F=.ok (e2,W,if d.isSome then x else ty) F/\e2<=W/\(W<=x)/\x<=n/\(d=none->x=n):=by
 have E:∀{Z:Option Operand}{B:Option aJ},pd P fz2 Z=some B->(Z=none/\B=none)\/∃y e,Z=some y/\B=some e/\VR J (gv M e) (C.eval y):=by intro Z B D;cases Z with|none=>simp only[pd,aa9]at D;exact .inl ⟨rfl,D.symm⟩|some y=>simp only[pd,ae2]at D;obtain⟨e,R,rfl⟩:=D;exact .inr ⟨y,e,rfl,rfl,h.gv R⟩
 have S:∃i,(match d.map C.eval with|some L=>Instr.sliceBound L ty (if c then .slice3Acap else .slice3Alen)|none=>pure ty:Sem Nat).run P F=.ok i F/\(i=if d.isSome then x else ty)/\x<=n/\x<=i/\(d=none->x=n):=by
  rcases E h3 with⟨rfl,rfl⟩|⟨y,e,rfl,rfl,j⟩;·simp only[jA,aa9]at u;subst u;exact⟨ty,aC,aC,aeE _,q,λ_=>rfl⟩
  simp only[jA]at u;have⟨f,g⟩:=Ba (P:=P) j u q (if c then .slice3Acap else .slice3Alen) F;exact⟨x,by simpa using f,aC,g,aeE _,aC⟩
 have⟨i,V,X,I,r,s⟩:=S;have K:∃code,W<=x/\((match hi.map C.eval,d.map C.eval with|some L,some _=>Instr.sliceBound L i .slice3B|some L,none=>Instr.sliceBound L i code|none,none=>pure n2|none,some _=>stuck "Slice: max without high" :Sem Nat).run P F=.ok W F)/\code=(if c then .sliceAcap else .sliceAlen):=by
  refine⟨if c then .sliceAcap else .sliceAlen,?_⟩;rcases E h2 with⟨rfl,rfl⟩|⟨y,e,rfl,rfl,j⟩;·simp only[jA,aa9]at k;subst k;cases d with|none=>refine⟨?_,aC,rfl⟩;rw[s rfl];exact G rfl rfl|some y=>simp at t
  simp only[jA]at k;cases d with|none=>have⟨f,g⟩:=Ba (P:=P) j k r (if c then .sliceAcap else .sliceAlen) F;exact⟨g,by simpa using f,rfl⟩|some z=>have⟨f,g⟩:=Ba (P:=P) j k r .slice3B F;exact⟨g,by simpa using f,rfl⟩
 obtain⟨code,T,Y,rfl⟩:=K;have Q:e2<=W/\(match lo.map C.eval with|some L=>Instr.sliceBound L W (if d.isSome then .slice3C else .sliceB)|none=>pure 0:Sem Nat).run P F=.ok e2 F:=by
  rcases E h1 with⟨rfl,rfl⟩|⟨y,e,rfl,rfl,j⟩;·simp only[jA,aa9]at A;subst A;exact⟨aa,aC⟩
  simp only[jA]at A;have⟨f,g⟩:=Ba (P:=P) j A (aeE _) (if d.isSome then .slice3C else .sliceB) F;exact⟨g,by simpa using f⟩
 refine⟨?_,Q.1,T,I,s⟩;cases d<;>cases hi<;>cases lo<;>simp_all[Instr.sliceBounds]
theorem PG(j:bm B N J O F)(hb:J d=some (x,W))(h:qf O d n=true)(hs:eW B n=some nt):(J.k x).2=nt:=by
 unfold qf at h;split at h
 .rename_i c t q p aK fz hi;have he:=ahn h;subst he;have f:O.get d≠.none:=by rw[hi];simp
  have⟨r,s,l,e,_,i,g⟩:=j.aE f;rw[hb]at e;injection e with e;injection e with e m;subst e;subst m;have:=j.iK d x W l f hb i;rw[hi]at this g;cases l<;>simp only[OR]at g;simp only[eQ]at this;rw[this];simp[hs]
 grind
theorem PH(h:dl B N J O F x M C){lo hi n:Option Operand}(K:D.op=.slice A S lo hi n)(c:bK B x D=some Q)(he:aH Q M O=some (L,V)):bC B N J F (execOp C.eval D) L V:=by
 simp only[bK,K,aeX,abF]at c;have⟨d,hd,c⟩:=c;split at c
 .rename_i e;split at c;·cases c
  rename_i a1;simp only[abF]at c;have⟨s,hs,c⟩:=c;split at c;·cases c
  simp only[abF,ahe,aa9]at c;obtain⟨ox,h1,ag,h2,a2,h3,a6,p,rfl⟩:=c;simp only[aH]at he;have E:=h.gv h1;have t:n.isSome=true->hi.isSome=true:=λh=>by cases hi<;>simp_all
  split at he;·rename_i R;simp only[aeX,abF,aa9,afm]at he;obtain⟨m,T,W,X,l,r,rfl,rfl⟩:=he;rw[R]at E;have Y:=E.lh;have⟨Z,k2,k3,k4,k5⟩:=HW h h2 h3 p T X r (aeE 0) t (λ_ _=>aeE _) true;have av:m=0:=aa;have aw:W=0:=aa;have ax:l=0:=aa;subst av;subst aw;subst ax;refine bC.val (c:=.slice none 0 0) (w':=F) ?_ (cM.bI h.I (by simp[VR]));simp only[execOp,K,Instr.sliceAt,Sem.run_bind,bS hd,Result.andThen_ok,Y,Instr.slice,Z,iM hs];cases n<;>simp
  .rename_i id off len cap ex R;simp only[aeX,abF,aa9,afm]at he;have⟨m,T,W,X,l,r,he⟩:=he;split at he;case isFalse=>cases he
   rename_i i;simp only[aa9,afm]at he;obtain⟨rfl,rfl⟩:=he;rw[R]at E;have⟨ad,G,Y,q1,q2,q3,a8,z,hb,q4,q5⟩:=E.l8;have⟨Z,k2,k3,k4,k5⟩:=HW h h2 h3 p T X r q2 t (λ_ _=>q1) true;refine bC.val (c:=.slice (some (if(if n.isSome then m else G)=l then ad else ad.add (l*s))) (W - l) ((if n.isSome then m else G) - l)) (w':=F) ?_ (cM.bI h.I ?_);·simp only[execOp,K,Instr.sliceAt,Sem.run_bind,bS hd,Result.andThen_ok,Y,Instr.slice,Z,iM hs];simp only[ahQ];rw[PF];simp
   simp only[VR];cases n with
   |none=>
    have:=k5 rfl;subst this;simp only[pd,aa9]at p;subst p;refine⟨trivial,aa,by simp;omega,λf=>?_,a8,z,hb,λj=>?_,λf=>?_⟩;rotate_left 2
    .simp only[Option.isSome_none,Bool.or_false,abH,bF]at f i⊢;subst f;have h6:=q5 rfl;simp only[Bool.false_or,aij,Nat.beq_eq_true_eq,Bool.false_and,abH,bF]at i⊢;rcases i with h0|h0
     .have h0:l=0:=by cases u:ag with|none=>rw[u]at r;simpa[jA]using r.symm|some q=>rw[u]at h0;simp at h0
      subst h0;simpa using h6
     have ay:=PG h.I hb h0 hs;rw[ay]at h6⊢;have:l*s+(G - l)*s=G*s:=by rw[<-aiT];congr 1;omega
     omega
    .simp at f⊢;rw[q3 f]
    simp only[Option.isSome_none,abH,bF]at j⊢;have k:=q4 aa;subst k;rw[an aa,an (by intro g;simp only[ahl,decide_eq_true_eq]at g;have:=q3 g.1;omega),sG,aiD]
   |some y=>simp only[pd,ae2]at p;obtain⟨oy,_,rfl⟩:=p;refine⟨trivial,aa,aC,λ_=>by simp,a8,z,hb,λj=>?_,λh=>by simp at h⟩;simp only[Option.isSome_some,bg]at j⊢;have k:=q4 aa;subst k;rw[an aa,an (by intro g;simp only[ahl,decide_eq_true_eq]at g;omega),sG,aiD]
  cases he
 grind
theorem uq{c:Call}{f:Builtin}(e:D.op=.call c)(hb:c.callee=.builtin f)(w:World):∃d,(execOp a.eval D).run P w=(builtin f c.argTypes D.type d (c.args.map a.eval)).run P w:=by exact⟨_,by simp only[execOp,e,resolve,hb,Sem.run_bind,Sem.run_pure,Result.andThen_ok,invoke];rfl⟩
theorem VR.goInt(ρ:aP)(n:Nat):VR ρ (.int 3 (.ofNat n)) (goInt n):=by trivial
theorem ct.length:∀{l:List aV}{m:List MapEntry},ct J l m->l.length=m.length|[],[],_=>rfl|_::_,_::_,h=>by simp[ct.length h.2.2.2]|[],_::_,h=>by trivial|_::_,[],h=>by trivial
theorem sK(f:bm B N J O F)(g:O.get d=.map h x)(hb:J d=some (W,0)):∃bB:Array MapEntry,F.heap[W]?=some (.map bB x)/\ct J h bB.toList:=by have⟨l,n,i,e,hl,k,c⟩:=f.aE (i:=d) (by grind);rw[hb]at e;injection e with e;injection e with j m;subst j;rw[g]at c;cases i<;>simp only[OR]at c;grind
theorem Bb(c:bm B N J O F)(i:O.get d=.map h n)(hb:J d=some (x,0))(j:F.heap[x]?=some (.map k W)):kB k W:=by have⟨l,p,m,e,hl,f,g⟩:=c.aE (i:=d) (by grind);grind[OR]
theorem cZ.length:∀{l:List aV}{m:List MapEntry},cZ J l m->l.length=m.length|[],[],_=>rfl|_::_,_::_,h=>by simp[cZ.length h.2.2]|[],_::_,h=>by trivial|_::_,[],h=>by trivial
theorem PJ(g:bm B N J O F)(i:O.get d=.cK h)(hb:J d=some (x,0)):∃(bB:Array MapEntry)(c:Nat)(l:List MapEntry),F.heap[x]?=some (.map bB c)/\l.Perm bB.toList/\cZ J h l:=by have⟨n,q,j,e,hl,m,f⟩:=g.aE (i:=d) (by grind);rw[hb]at e;injection e with e;injection e with k p;subst k;rw[i]at f;cases j<;>simp only[OR]at f;grind
theorem pp(h:F.heap[x]?=some (.map k W)):(getObj x).run B F=.ok (.map k W) F:=by simp[h,getObj,Sem.run]
theorem PK(h:dl P N J O F x M a){c:Call}(A:D.op=.call c)(hb:c.callee=.builtin .len)(g:bK P x D=some Q)(he:aH Q M O=some (L,V)):bC P N J F (execOp a.eval D) L V:=by
 simp only[bK,A,hb,aeX,abF]at g;have⟨t,m,d,hd,g⟩:=g;have⟨p,e⟩:=uq (P:=P) (a:=a) A hb F;split at g;all_goals(try(cases g;done))
 all_goals
  simp only[abF,ahe,aa9]at g;obtain⟨S,⟨C,u,y⟩,rfl⟩:=g;have n:(c.args.map a.eval)[0]?=some (a.eval C):=by simp[u]
  have i:=h.gv y;simp only[aH]at he;split at he<;>(try(cases he;done))<;>rename_i E<;>rw[E]at i
 .obtain⟨rfl,rfl⟩:=he;have⟨B,z,f⟩:=i.mQ;refine bC.val (c:=goInt B.size) (w':=F) ?_ (cM.bI h.I ?_);·rw[e];simp[builtin,Builtin.len_,m,n,bS hd,f]
  rw[<-z,ahs,aia];exact VR.goInt J B.size
 .simp only[aa9,afm]at he;obtain⟨rfl,rfl⟩:=he;have⟨ad,K,f,_⟩:=i.l8;refine bC.val (c:=goInt _) (w':=F) ?_ (cM.bI h.I (VR.goInt J _));rw[e];simp[builtin,Builtin.len_,m,n,bS hd,f]
 .simp only[aa9,afm]at he;obtain⟨rfl,rfl⟩:=he;have f:=i.lh;refine bC.val (c:=goInt 0) (w':=F) ?_ (cM.bI h.I (VR.goInt J 0));rw[e];simp[builtin,Builtin.len_,m,n,bS hd,f]
 .simp only[aa9,afm]at he;obtain⟨rfl,rfl⟩:=he;have f:=i.sH;refine bC.val (c:=goInt 0) (w':=F) ?_ (cM.bI h.I (VR.goInt J 0));rw[e];simp[builtin,Builtin.len_,m,n,bS hd,f]
 split at he
 .rename_i es k q;simp only[aa9,afm]at he;obtain⟨rfl,rfl⟩:=he;have⟨R,j,f⟩:=i.po;have⟨bB,r,s⟩:=sK h.I q j;refine bC.val (c:=goInt bB.size) (w':=F) ?_ (cM.bI h.I ?_);·rw[e];simp[builtin,Builtin.len_,m,n,bS hd,f,pp r]
  rw[ct.length s,aia];exact VR.goInt J bB.size
 .rename_i es q;simp only[aa9,afm]at he;obtain⟨rfl,rfl⟩:=he;have⟨R,j,f⟩:=i.po;have⟨bB,k,l,r,s,G⟩:=PJ h.I q j;refine bC.val (c:=goInt bB.size) (w':=F) ?_ (cM.bI h.I ?_);·rw[e];simp[builtin,Builtin.len_,m,n,bS hd,f,pp r]
  rw[cZ.length G,s.length_eq,aia];exact VR.goInt J bB.size
 cases he
theorem PL(h:dl P N J O F x M a){c:Call}(m:D.op=.call c)(hb:c.callee=.builtin .cap)(e:bK P x D=some Q)(he:aH Q M O=some (L,V)):bC P N J F (execOp a.eval D) L V:=by
 simp only[bK,m,hb,aeX,abF]at e;have⟨t,n,d,hd,e⟩:=e;have⟨g,f⟩:=uq (P:=P) (a:=a) m hb F;split at e
 .simp only[abF,ahe,aa9]at e;obtain⟨y,⟨q,k,l⟩,rfl⟩:=e;have p:(c.args.map a.eval)[0]?=some (a.eval q):=by simp[k]
  have i:=h.gv l;simp only[aH]at he;split at he<;>(try(cases he;done))<;>rename_i r<;>rw[r]at i;·simp only[aa9,afm]at he;obtain⟨rfl,rfl⟩:=he;have⟨ad,u,j,_,_,s,_⟩:=i.l8;have:=s rfl;subst this;refine bC.val (c:=goInt _) (w':=F) ?_ (cM.bI h.I (VR.goInt J _));rw[f];simp[builtin,Builtin.cap_,n,p,bS hd,j]
  simp only[aa9,afm]at he;obtain⟨rfl,rfl⟩:=he;have j:=i.lh;refine bC.val (c:=goInt 0) (w':=F) ?_ (cM.bI h.I (VR.goInt J 0));rw[f];simp[builtin,Builtin.cap_,n,p,bS hd,j]
 grind
theorem HZ(e:Bool):∀(l:List AV)(m:List Value)(x:AV)(c:Value)(r:AV),VR J x c->be J l m->vZ e x l=some r->∃q,(m.foldlM (if e then Builtin.max2 else Builtin.min2) c).run P w=.ok q w/\VR J r q
 |[],[],x,c,r,z,_,h=>by simp_all[vZ,aa9]
 |y::l,d::m,x,c,r,z,hl,h=>by
  unfold vZ at h;split at h;·grind
  .rename_i k n j f A s;split at h
   .rename_i B;injection s with C D;subst C;subst D;obtain⟨g,i,rfl⟩:=z.i6;obtain⟨E,F,rfl⟩:=hl.1.i6;have t:g=E:=ul (by have:=ahn B;omega);subst t;have p:∃q,((if e then Builtin.max2 else Builtin.min2) (.int g n) (.int g f)).run P w=.ok q w/\VR J (.int k (if e then(if j7 n f then f else n)else(if j7 f n then f else n))) q:=by
     cases e;·refine⟨.int g (if f<n then f else n),by simp[Builtin.min2],?_⟩;simp[VR,i,li]
     refine⟨.int g (if f>n then f else n),by simp[Builtin.max2],?_⟩;simp[VR,i,li]
    have⟨q,G,u⟩:=p;have⟨I,h1,h2⟩:=HZ e _ _ _ _ _ u hl.2 h;simp_all
   grind
  grind
 |[],_::_,_,_,_,_,hl,_=>by trivial
 |_::_,[],_,_,_,_,hl,_=>by trivial
theorem Ic(h:dl P N J O w x M a){c:Call}(n:D.op=.call c)(hb:c.callee=.builtin (if isMax then .max else .min))(p:bK P x D=some Q)(he:aH Q M O=some (L,V)):bC P N J w (execOp a.eval D) L V:=by
 have i:∃l,c.args.toList.mapM (fj P x)=some l/\Q=.oY isMax l:=by cases isMax<;>simp only[bg,bF,abH]at hb<;>simp only[bK,n,hb,sD,aeX,abF,ahe,aa9]at p<;>(obtain⟨l,h1,h2⟩:=p;exact⟨l,h1,h2.symm⟩)
 obtain⟨l,h1,rfl⟩:=i;have⟨f,j⟩:=uq (P:=P) (a:=a) n hb w;have g:=wF h.E h.I h1;simp only[aH]at he;split at he;·rename_i z e hl;simp only[ae2,afm]at he;obtain⟨q,r,rfl,rfl⟩:=he;rw[hl]at g;have k:(c.args.map a.eval).toList=c.args.toList.map a.eval:=aC;cases s:c.args.toList.map a.eval with|nil=>simp_all|cons d m=>rw[s]at g;have⟨t,y,u⟩:=HZ (P:=P) (w:=w) isMax e m z d q g.1 g.2 r;refine bC.val (c:=t) (w':=w) ?_ (cM.bI h.I u);rw[j];cases isMax;all_goals simp_all[abH,bF,builtin,Builtin.min_,bg,Builtin.max_]
 grind
theorem za(c:List AV):∀n,(dZ c n).length=n*c.length|0=>by simp[dZ]|n+1=>by simp[dZ,za c n,Nat.succ_mul];omega
theorem Ie(c:List AV):∀(n i:Nat),i<n*c.length->(dZ c n)[i]?=c[i % c.length]?
 |0,i,h=>by omega
 |n+1,i,h=>by
  simp only[dZ];by_cases hi:i<c.length;·simp[hi,ahE,Nat.mod_eq_of_lt]
  rw[ais aa,Ie c n _ (by grind)];simp_all[Nat.mod_eq_sub_mod]
theorem Bc(h:be ρ X E.toList)(n:Nat)(hs:X.length≠0):be ρ (dZ X n) ((ai7 (n*E.size)).map (E[·% E.size]!)).toList:=by
 have hl:=be.length h;simp only[aia]at hl;refine be.DI (by simp[hl,za]) ?_;intro i L c e f;have hi:i<n*X.length:=by
  rcases aic i (n*X.length)with h|h;·exact h
  rw[ah1 (by rw[za];exact h)]at e;cases e
 rw[Ie X n i hi]at e;have⟨d,hd,g⟩:=be.get h _ L e;grind
theorem If:∀(l:List Value)(cs:Array Value)(off j:Nat),(l.zipIdx j).foldl (λcs(p:Value×Nat)=>cs.setIfInBounds (off+p.2) p.1) cs=wr cs (off+j) l|[],cs,off,j=>rfl|L::l,cs,off,j=>by simp only[List.zipIdx_cons,List.foldl_cons,wr];rw[If l _ off (j+1)];rfl
theorem DR:∀(off:Nat)(l d f:List AV)(cs e:List Value),rj l off d=some f->be J l cs->be J d e->off+e.length<=cs.length/\be J f (cs.take off++e++cs.drop (off+e.length))
 |0,l,[],f,cs,[],h,hl,_=>by simp_all[rj,aa9]
 |0,x::l,L::d,f,c::cs,m::e,h,hl,i=>by
  simp only[rj]at h;split at h;·rename_i j g;injection h with h;subst h;have⟨k,n⟩:=DR 0 l d j cs e g hl.2 i.2;simp_all[aiB,aie,ah4,be,ahw,ahK,List.drop_succ_cons]
  grind
 |off+1,x::l,d,f,c::cs,e,h,hl,i=>by
  simp only[rj]at h;split at h;·rename_i j g;injection h with h;subst h;have⟨k,n⟩:=DR off l d j cs e g hl.2 i;grind[be]
  grind
 |off+1,[],d,f,_,_,h,_,_=>by trivial
 |0,[],L::d,f,_,_,h,_,_=>by trivial
 |0,_,[],_,_,_::_,_,_,i=>by trivial
 |0,_,_::_,_,_,[],_,_,i=>by trivial
 |0,_::_,_,_,[],_,_,hl,_=>by trivial
 |_+1,_::_,_,_,[],_,_,hl,_=>by trivial
theorem PM(l:List Value)(cs:Array Value)(off:Nat)(h:off+l.length<=cs.size):(wr cs off l).toList=cs.toList.take off++l++cs.toList.drop (off+l.length):=by apply List.ext_getElem?;intro j;rw[Array.getElem?_toList,yY l cs off j h];by_cases h1:j<off;all_goals grind
theorem Bd(h:dl B N J O F x M C)(c:Nat->Option (Nat×Nat)):∀(dX:List (Nat×Operand))(l:List (Nat×Nat×aJ))(g r:List AV)(cs:Array Value),dX.mapM (λp=>(c p.1).bind λq=>(fj B x p.2).map λQ=>(q.1,q.2,Q))=some l->be J g cs.toList->lE M g l=some r->∃d,Instr.fill c cs (dX.map λp=>(p.1,C.eval p.2))=some d/\be J r d.toList/\d.size=cs.size
 |[],l,g,r,cs,i,k,hl=>by simp at i;subst i;simp only[lE,aa9]at hl;subst hl;exact⟨cs,rfl,k,rfl⟩
 |p::dX,l,g,r,cs,i,k,hl=>by
  simp only[aiO,aeX,abF,ahe,aa9,ae2]at i;obtain⟨t,⟨q,A,Q,D,rfl⟩,E,m,rfl⟩:=i;simp only[lE]at hl;split at hl
  .rename_i e;simp only[ahl,decide_eq_true_eq]at e;have⟨n,e⟩:=e;split at hl
   .rename_i u s;have j:=VR.cells (h.gv D) n;have f:=be.length j;simp only[aia]at f;have⟨y,z⟩:=DR q.1 g (gv M Q).cells u cs.toList (C.eval p.2).cells.toList s k j;simp only[aia]at y;have G:=PM (C.eval p.2).cells.toList cs q.1 (by simpa using y);rw[<-G]at z;have⟨d,I,K,L⟩:=Bd h c dX E u r _ m z hl;refine⟨d,?_,K,by rw[L,rD]⟩;simp only[ahk,Instr.fill,A];rw[an];·rw[<-Array.foldl_toList,Array.toList_zipIdx];have:=If (C.eval p.2).cells.toList cs q.1 0;simp only[aiV]at this;rw[this];exact I
    simp;omega
   cases hl
  cases hl
theorem PN(h:dl B N J O F x M C){dX:Array (Nat×Operand)}(u:D.op=.build A dX)(g:bK B x D=some Q)(he:aH Q M O=some (L,V)):bC B N J F (execOp C.eval D) L V:=by
 simp only[bK,u,aeX,abF]at g;have⟨z,R,d,hd,g⟩:=g;have⟨zv,m,n,t⟩:=sI R;split at g
 .rename_i K;simp only[abF,ahe,aa9]at g;obtain⟨c,E,l,hl,rfl⟩:=g;simp only[aH,ae2,afm]at he;obtain⟨q,⟨r,y,rfl⟩,rfl,rfl⟩:=he;have⟨j,S,T,_⟩:=Bd h (λi=>c[i]?) dX.toList l z.cells r zv.cells hl (VR.cells (n J) t) y;have e:(K.mapM λ(f:Field)=>(do pure (f.offset,<-sizeOf f.type):Sem (Nat×Nat))).run B F=.ok c.toArray F:=by
   rw[Array.mapM_eq_mapM_toList];have:∀(k:List Field)(pl:List (Nat×Nat)),k.mapM (λ(f:Field)=>(eW B f.type).map λs=>(f.offset,s))=some pl->(k.mapM λ(f:Field)=>(Prod.mk f.offset<$>sizeOf f.type:Sem (Nat×Nat))).run B F=.ok pl F:=by intro k;induction k with|nil=>intro pl h;simp at h;subst h;simp|cons f k W=>intro pl h;simp only[aiO,aeX,abF,ahe,aa9,ae2]at h;obtain⟨_,⟨s,hs,rfl⟩,G,h2,rfl⟩:=h;simp[aiO,iM hs,W G h2]
   simp[this K.toList c E]
  refine bC.val (c:=.agg j) (w':=F) ?_ (cM.bI h.I (by trivial));simp only[execOp,u,Instr.build,Sem.run_bind,m,Result.andThen_ok,bS hd,e];simp_all
 .simp only[abF,ahe,aa9]at g;obtain⟨s,hs,l,hl,rfl⟩:=g;simp only[aH,ae2,afm]at he;obtain⟨q,⟨r,y,rfl⟩,rfl,rfl⟩:=he;have⟨j,S,T,_⟩:=Bd h (λi=>some (i*s,s)) dX.toList l z.cells r zv.cells (by grind) (VR.cells (n J) t) y;refine bC.val (c:=.agg j) (w':=F) ?_ (cM.bI h.I (by trivial));have:(dX.map λX=>match X with|(i,X)=>(i,C.eval X)).toList=dX.toList.map λp=>(p.1,C.eval p.2):=aC;simp only[execOp,u,Instr.build,Sem.run_bind,m,Result.andThen_ok,bS hd,iM hs];simp_all
 grind
theorem PO(h:dl B N ρ O F W M C){dX:Array (Nat×Operand)}(K:D.op=.buildSlice A x dX)(c:bK B W D=some Q)(he:aH Q M O=some (L,V)):bC B N ρ F (execOp C.eval D) L V:=by
 simp only[bK,K,aeX,abF]at c;have⟨d,hd,c⟩:=c;split at c
 .rename_i e;simp only[abF]at c;have⟨s,hs,z,R,c⟩:=c;split at c;·cases c
  rename_i G;simp only[abF,ahe,aa9]at c;obtain⟨l,hl,rfl⟩:=c;simp only[aH]at he;split at he
  .rename_i r S;split at he
   .rename_i h1;simp only[aa9,afm]at he;obtain⟨rfl,rfl⟩:=he;have⟨zv,j,q,t⟩:=sI R;have k:=VR.cells (q ρ) t;have u:=be.length k;simp only[aia]at u;have f:zv.cells.size=s:=aa;have m:=Bc (ρ:=ρ) k x aa;have⟨y,n,T,k3⟩:=Bd h (λi=>some (i*s,s)) dX.toList l (dZ z.cells x) r ((ai7 (x*zv.cells.size)).map (zv.cells[·% zv.cells.size]!)) (by simpa using hl) m S;have⟨X,Y,Z⟩:=wG h.I T e r.length rfl [];refine bC.val (c:=.slice (some ⟨F.heap.size,0,none⟩) x x) (w':={F with heap:=F.heap.push (.cells (y.toList++[]).toArray e (0,0))}) ?_ ⟨_,X,?_,Y,Z⟩
    .have:(dX.map λag=>match ag with|(i,ag)=>(i,C.eval ag)).toList=dX.toList.map λp=>(p.1,C.eval p.2):=aC;simp only[execOp,K,Instr.buildSlice,Sem.run_bind,bS hd,Result.andThen_ok,iM hs,Sem.run_ite];rw[an aa];have J:(if x*s=0 then(Sem.run B (pure #[]) F:Result (Array Value))else Sem.run B (do pure (<-zeroValue e).cells) F)=.ok (if x*s=0 then #[]else zv.cells) F:=by split<;>simp[j]
     by_cases g:x*s=0
     .rw[aF g];simp only[Sem.run_pure,Result.andThen_ok];have E:((ai7 (x*s)).map λag=>(#[]:Array Value)[ag %(#[]:Array Value).size]!)=((ai7 (x*zv.cells.size)).map (zv.cells[·% zv.cells.size]!)):=by rw[f,g];simp
      rw[E,this,n];simp[newRow]
     rw[an g];simp only[Sem.run_bind,j,Sem.run_pure,Result.andThen_ok];rw[this];rw[f]at n;rw[f,n];simp[newRow]
    simp only[VR];exact⟨trivial,aeE _,aeE _,λ_=>trivial,_,_,aP.eA ..,λ_=>by simp,λh=>by cases h⟩
   cases he
  cases he
 grind
theorem PP(X:Array Value):(X.toList++[]).toArray=X:=aC
theorem sL(h:dU x=true):x<=70368744177664:=aht h
theorem PQ(h:dl B N ρ O F x M C)(ho:D.op=.makeSlice A S Y)(f:bK B x D=some Q)(he:aH Q M O=some (L,V)):bC B N ρ F (execOp C.eval D) L V:=by
 simp only[bK,ho,aeX,abF]at f;have⟨d,hd,f⟩:=f;split at f
 .rename_i e;simp only[abF]at f;have⟨s,hs,z,hz,f⟩:=f;split at f;·grind
  simp only[abF,ahe,aa9]at f;obtain⟨t,u,ox,h1,oy,h2,rfl⟩:=f;simp only[aH]at he;have g1:=h.gv h1;have g2:=h.gv h2;split at he
  .rename_i l c hl y;split at he
   .rename_i eB;simp only[ahl]at eB;have⟨⟨E,G⟩,J⟩:=eB;have m:l<=c:=aht E;have av:=sL G;have aw:=sL J;obtain⟨rfl,rfl⟩:=he;rw[hl]at g1;rw[y]at g2;have⟨k1,ax,hx⟩:=g1.i6;have⟨k2,ay,hy⟩:=g2.i6;have⟨zv,K,R,T⟩:=sI hz;have j:=VR.cells (R ρ) T;have k:=be.length j;simp only[aia]at k;have g:zv.cells.size=s:=aa;have n:=Bc (ρ:=ρ) j c aa;have⟨q1,q2,q3⟩:=wG h.I n e (c*s) (by simp[k,g,za]) [];have⟨ti,W,X⟩:=DN u;refine bC.val (c:=.slice (some ⟨F.heap.size,0,none⟩) l c) (w':={F with heap:=F.heap.push (.cells (((ai7 (c*zv.cells.size)).map (zv.cells[·% zv.cells.size]!)).toList++[]).toArray e (0,0))}) ?_ ⟨_,q1,?_,q2,q3⟩
    .have Z:IntKind.i64.wrap (ah0 l)=l:=y9 _ (by simp only[ag0];omega) (by simp only[ag0];omega);have ag:IntKind.i64.wrap (ah0 c)=c:=y9 _ (by simp only[ag0];omega) (by simp only[ag0];omega);have p:¬((ti.bytes:Int)*(c:Int)>2^48):=by
      have e1:(2:Int)^48=281474976710656:=bt;rw[e1,X];have:((t*c:Nat):Int)<=281474976710656:=by rw[Nat.mul_comm];omega
      push_cast at this;omega
     have q:¬((c:Int)<0):=aa;have i:¬((l:Int)<0):=aa;have r:¬((l:Int)>(c:Int)):=aa;simp only[execOp,ho,Instr.makeSlice,Sem.run_bind,bS hd,Result.andThen_ok,hx,hy,asInt,asIntOf,Sem.run_pure,wD W,Z,ag];simp only[p,q,i,r,decide_false,Bool.or_false,abH,bF];rw[PP];by_cases hn:c*s=0;·simp only[run_askRoom,Result.andThen_ok,iM hs,aeY,hn,g,newRow,bg,Sem.run_bind,Sem.run_pure,run_newObj];grind
     simp only[run_askRoom,Result.andThen_ok,iM hs,aeY,hn,g,newRow,bF,Sem.run_bind,Sem.run_pure,run_newObj,K]
    simp only[VR];exact⟨trivial,m,aeE _,λ_=>trivial,_,_,aP.eA ..,λ_=>by rfl,λh=>by grind⟩
   grind
  grind
 grind
theorem PR(h:dl P N J O F x M C)(ho:D.op=.convert A f S)(d:bK P x D=some Q)(he:aH Q M O=some (L,V)):bC P N J F (execOp C.eval D) L V:=by
 simp only[bK,ho,aeX,abF]at d;have⟨ts,B,td,E,d⟩:=d;split at d
 .rename_i k0 k;simp only[abF,ahe,aa9]at d;obtain⟨ox,h1,rfl⟩:=d;have y:=h.gv h1;simp only[aH]at he;split at he;·rename_i j n T;obtain⟨rfl,rfl⟩:=he;rw[T]at y;have⟨k',_,W⟩:=y.i6;exact bC.val (c:=.int k (k.wrap n)) (w':=F) (by simp[execOp,ho,convert,bS B,bS E,W,Conv.intToInt]) (cM.bI h.I (by simp[VR,um]))
  grind
 .simp only[abF]at d;have⟨te,Y,d⟩:=d;split at d
  .simp only[bg,abF,ahe,aa9]at d;obtain⟨ox,h1,rfl⟩:=d;have y:=h.gv h1;simp only[aH]at he;split at he;·rename_i T;obtain⟨rfl,rfl⟩:=he;rw[T]at y;have W:=y.lh;exact bC.val (c:=.string .empty) (w':=F) (by simp[execOp,ho,convert,bS B,bS E,bS Y,W,Conv.bytesToString]) (cM.bI h.I (by rfl))
   .rename_i id off len cap ex T;split at he
    .rename_i l hl;simp only[ae2,afm]at he;obtain⟨bs,bz,rfl,rfl⟩:=he;rw[T]at y;have⟨ad,cp,W,p1,p2,p3,a6,z,hb,p4,p5⟩:=y.l8;have u:∀(l:List AV)(m:List Value)(r:List Nat),ud l=some r->be J l m->m=(r.map ah0).map (Value.int .u8)/\∀n∈r,n<256:=by
      intro l;induction l with
      |nil=>intro m r h1 h2;cases m with|nil=>simp only[ud,aa9]at h1;subst h1;simp|cons _ _=>simp[be]at h2
      |cons L l X=>
       intro m r h1 h2;cases m with
       |nil=>simp[be]at h2
       |cons c m=>
        simp only[be]at h2;simp only[ud]at h1;split at h1
        .rename_i n r' i e2;injection h1 with h1;subst h1;have⟨g,g'⟩:=X m r' e2 h2.2;unfold CV at i;split at i
         .rename_i n';split at i
          .rename_i p;injection i with i;subst i;have⟨k',hk,ag⟩:=h2.1.i6;have:k'=.u8:=ul (by rw[<-hk];rfl);subst this;have a1:n'<256:=ahC (Nat.lt_succ_self n') (aht p);refine⟨by simp[g,ag],λq hq=>?_⟩;rcases ac2.1 hq with e|e;·omega
           exact g' q e
          cases i
         cases i
        cases h1
     have K:∃m:List Value,(loadCells ad len).run P F=.ok m.toArray F/\be J l m:=by
      rcases Nat.eq_zero_or_pos len with hz|hz
      .subst hz;refine⟨[],by simp[loadCells,loadCellsFrom],?_⟩;unfold dE at hl;split at hl;·simp only[fZ,aa9]at hl;subst hl;simp[be]
       cases hl
      have:=p4 aa;subst this;unfold dE at hl;split at hl;·rename_i c m' e' a2 aK fz hi;obtain⟨b',x',ob,t,p,av,G⟩:=h.I.aE (i:=id) (by rw[hi];simp);rw[hb]at t;injection t with t;injection t with i e2;subst i;subst e2;rw[hi]at G;cases ob with|cells cs el fr=>have⟨q1,q2⟩:=A5 G hl;exact⟨_,yX F av (z+off) len (q2 hz),q1⟩|_=>simp[OR]at G
      cases hl
     have⟨m,hm,aw⟩:=K;have⟨ax,p⟩:=u l m bs bz aw;subst ax;have Z:=run_bytesToString (P:=P) F ad len cp (bs.map ah0) hm;have R:∀(r:List Nat)(s:ByteArray),((r.map ah0).foldl (λr n=>r.push (ai0 n.toNat)) s).data.toList=s.data.toList++r.map ai0:=by intro r;induction r with|nil=>intro s;simp|cons n r X=>intro s;simp only[ahk,List.foldl_cons];rw[X];simp[ByteArray.push]
     refine bC.val (c:=.string _) (w':=F) (by simp[execOp,ho,convert,bS B,bS E,bS Y,W,Z];rfl) (cM.bI h.I ?_);simp only[VR];rw[R];simp only[ahx,aiF];have:bs.map (aiJ∘ai0)=bs:=by
      have ay:∀(r:List Nat),(∀n∈r,n<256)->r.map (aiJ∘ai0)=r:=by intro r;induction r with|nil=>intro _;rfl|cons n r X=>intro hr;rw[ahk,X (λq hq=>hr q (ab8 _ hq))];have:=hr n (acj ..);simp only[Function.comp,UInt8.toNat_ofNat',ahD,and_true];omega
      exact ay bs p
     simp_all
    grind
   grind
  grind
 grind
theorem PS(h:dl B N J O F x M C)(r:D.op=.typeAssert S f A Z)(k:bK B x D=some Q)(he:aH Q M O=some (L,V)):bC B N J F (execOp C.eval D) L V:=by
 simp only[bK,r,aeX,abF]at k;have⟨d,hd,k⟩:=k;have key:(∀m,d≠.interface m)/\∃z l,nJ B A=some z/\fj B x S=some l/\Q=.typeAssert A z Z l:=by cases d<;>simp only[bg,abH,bF,abF,ahe,aa9]at k<;>first|(cases k;done)|(obtain⟨z,h0,l,h1,h2⟩:=k;exact⟨(λm e=>by cases e),z,l,h0,h1,h2.symm⟩)
 obtain⟨i,z,l,R,h1,rfl⟩:=key;have⟨zv,n,p,T⟩:=sI R;have s:=h.gv h1;simp only[aH]at he;have q:(Instr.typeAssert .nilIface f A true).run B F=.ok (.tuple #[zv,.bool false]) F:=by simp only[Instr.typeAssert,Sem.run_bind,bS hd,Result.andThen_ok];cases d<;>first|(exact absurd rfl (i _))|simp[n]
 have j:∀(c:Value)(Y:Bool),(Instr.typeAssert (.iface A c) f A Y).run B F=.ok (if Y then .tuple #[c,.bool true]else c) F:=by intro c Y;simp only[Instr.typeAssert,Sem.run_bind,bS hd,Result.andThen_ok];cases d<;>first|(exact absurd rfl (i _))|simp
 have g:∀(u:TypeId)(c:Value),u≠A->(Instr.typeAssert (.iface u c) f A true).run B F=.ok (.tuple #[zv,.bool false]) F:=by intro u c hu;simp only[Instr.typeAssert,Sem.run_bind,bS hd,Result.andThen_ok];cases d<;>first|(exact absurd rfl (i _))|simp[hu,n]
 split at he
 .rename_i E;rw[E]at s;have t:=s.y7;split at he;·rename_i eB;subst eB;obtain⟨rfl,rfl⟩:=he;exact bC.val (c:=.tuple #[zv,.bool false]) (w':=F) (by simp[r,t,q,execOp]) (cM.bI h.I (by simp[p,VR,be]))
  grind
 .rename_i u W E;rw[E]at s;have⟨y,X,t⟩:=s.wB;split at he;·rename_i hu;have G:u=A:=ahn hu;subst G;obtain⟨rfl,rfl⟩:=he;refine bC.val (c:=if Z then .tuple #[y,.bool true]else y) (w':=F) (by simp[r,t,j,execOp]) (cM.bI h.I ?_);grind[VR,be]
  rename_i hu;split at he;·rename_i eB;subst eB;obtain⟨rfl,rfl⟩:=he;have K:u≠A:=λe=>hu (by subst e;simp);exact bC.val (c:=.tuple #[zv,.bool false]) (w':=F) (by simp[r,t,g,K,execOp]) (cM.bI h.I (by simp[p,VR,be]))
  grind
 grind
section
variable{P:Program}{w:World}{a:Act}
structure sM(P:Program)(w:World)(argTypes:Array TypeId)(e:TypeId)(size:Nat)(x:Value)(n:Nat)(m:List Value):Prop where
 run:∀(ty:TypeId)(s:Value)(bM:Option Addr)(sLen sCap:Nat),s=.slice bM sLen sCap->∀sT,argTypes[0]?=some sT->P.underlying sT=some (.slice e)->eW P e=some size->
  (sLen+n<=sCap->∀w',(match bM with|some a=>storeCells (a.add (sLen*size)) m|none=>pure ():Sem Unit).run P w=.ok () w'->
   (Builtin.append_ argTypes ty #[s,x]).run P w=.ok (.slice bM (sLen+n) sCap) w')/\
  (¬sLen+n<=sCap->∀i,P.info? e=some i->(sLen+n)*i.bytes<=70368744177664->sLen+n<=70368744177664->∀z,(∀w,(zeroValue e).run P w=.ok z w)->∀cI:Array Value,(Builtin.firstCells size sLen s).run P w.drew=.ok cI w.drew->
   (Builtin.append_ argTypes ty #[s,x]).run P w=.ok (.slice (some ⟨w.heap.size,0,none⟩) (sLen+n) (grownCap w (sLen+n) sCap e))
     (w.drew.alloc (.cells (cI++m.toArray++Builtin.zeroCells z.cells (grownCap w (sLen+n) sCap e - (sLen+n))) e)))
theorem Ig(n:Nat):∀(r c:Nat),256<=c->c<2*n->Builtin.growBy n r c<=2*n
 |0,c,_,h=>by grind[Builtin.growBy]
 |r+1,c,h1,h2=>by
  simp only[Builtin.growBy];split;·omega
  rcases aic (c+(c+768)/4) (2*n)with h|h;·exact Ig n r _ aa h
  omega
theorem PT(h:W<x):Builtin.nextslicecap x W<=2*x:=by grind[Builtin.nextslicecap,Ig]
theorem Be(h:n<x)(hb:x*W<=70368744177664):¬(Builtin.nextslicecap x n*W>2^48):=by have h1:=ahS W (PT h);grind
theorem sM.PU{argTypes:Array TypeId}{m:List Value}(q:argTypes[1]?=some A)(e:P.underlying A=some y)(h:∀k,y≠.int k)(d:∀r:World,(Builtin.lenOf I).run P r=.ok x r)(h1:(Builtin.firstCells W x I).run P w=.ok m.toArray w)(h2:(Builtin.firstCells W x I).run P w.drew=.ok m.toArray w.drew):sM P w argTypes f W I x m:=by
 refine⟨λE s bM j C hs F t hu g=>⟨λc r dg=>?_,λc i hi u D z p cI eg=>?_⟩⟩
 .subst hs;have p:(match y with|.int _=>true|_=>false)=false:=by cases y<;>first|rfl|(exact absurd rfl (h _))
  cases bM with|none=>simp only[Sem.run_pure,Result.ok.injEq,true_and]at dg;subst dg;simp[Builtin.append_,t,q,bS hu,iM g,bS e,p,d,c,h1]|some ad=>simp only at dg;simp[Builtin.append_,t,q,bS hu,iM g,bS e,p,d,c,h1,dg]
 subst hs;have B:(match y with|.int _=>true|_=>false)=false:=by cases y<;>first|rfl|(exact absurd rfl (h _))
 have l:=Be (Nat.lt_of_not_le c) u;have n:¬(((j+x:Nat):Int)>IntKind.i64.max):=by have:IntKind.i64.max=9223372036854775807:=bt;rw[this];omega
 simp only[Builtin.append_,t,q,bS hu,iM g,bS e,B,d,c,Sem.run_bind,Result.andThen_ok,Sem.run_pure,abH,bF,List.getElem?_toArray,List.getElem?_cons_zero,ail,wD hi,n,false_and,l,run_choose,Question.forced,run_askRoom];rw[show({heap:=w.heap,tape:=w.tape,drawn:=w.drawn+1,os:=w.os,output:=w.output}:World)=w.drew from rfl,eg];simp only[Result.andThen_ok,Bool.not_false,bg,h2,p,newRow,Sem.run_bind,run_newObj,Sem.run_pure];rfl
theorem sM.PV{argTypes:Array TypeId}{k K:IntKind}(E:argTypes[1]?=some f)(h:P.underlying f=some (.int k))(u:ww P A=some n)(Q:x*n<=70368744177664)(N:x<=70368744177664)(L:∀w,(zeroValue A).run P w=.ok I w)(y:I.cells.size=W):sM P w argTypes A W (.int K (x:Int)) x ((ai7 (x*I.cells.size)).map (I.cells[·% I.cells.size]!)).toList:=by
 have⟨F,d,z⟩:=DN u;have j:IntKind.i64.wrap (x:Int)=x:=y9 _ aa aa;have l:¬((x:Int)*(F.bytes:Int)>2^48):=by have M:(2:Int)^48=281474976710656:=bt;rw[M,z];have:((x*n:Nat):Int)<=281474976710656:=aa;push_cast at this;omega
 have e:¬((x:Int)<0):=aa;have g:∀t,(if x*W=0 then pure #[]else do pure (Builtin.zeroCells (<-zeroValue A).cells x):Sem (Array Value)).run P t=.ok ((ai7 (x*I.cells.size)).map (I.cells[·% I.cells.size]!)) t:=by
  intro t;by_cases h0:x*W=0;·rw[aF h0,y,h0];simp
  rw[an h0];simp[L,Builtin.zeroCells]
 refine⟨λR s bM p J hs S G hu m=>⟨λc t dg=>?_,λc i hi B O T C cI eg=>?_⟩⟩;·subst hs;simp only[Builtin.append_,G,E,bS hu,iM m,bS h,c,Sem.run_bind,Result.andThen_ok,Sem.run_pure,bg,List.getElem?_toArray,List.getElem?_cons_zero,ail,asInt,asIntOf,j,e,bF,wD d,l,aeY,ahN,abH,g];cases bM with|none=>simp_all|some ad=>simp_all
 subst hs;have q:=Be (Nat.lt_of_not_le c) B;have r:¬(((p+x:Nat):Int)>IntKind.i64.max):=by have:IntKind.i64.max=9223372036854775807:=bt;rw[this];omega
 have D:i=F:=by rw[hi]at d;injection d
 subst D;simp only[Builtin.append_,G,E,bS hu,iM m,bS h,c,Sem.run_bind,Result.andThen_ok,Sem.run_pure,bg,List.getElem?_toArray,List.getElem?_cons_zero,ail,asInt,asIntOf,j,e,bF,wD d,l,aeY,ahN,abH,r,false_and,q,run_choose,Question.forced,run_askRoom];rw[show({heap:=w.heap,tape:=w.tape,drawn:=w.drawn+1,os:=w.os,output:=w.output}:World)=w.drew from rfl,eg];simp only[Result.andThen_ok,g,C,newRow,Sem.run_bind,run_newObj,Sem.run_pure];rfl
end
theorem DS(c:Array Value)(n:Nat):(Builtin.zeroCells c n).size=n*c.size:=by simp[Builtin.zeroCells]
theorem Ih(l:bm P N J O F){ad:Addr}(hb:J d=some (ty,e2))(i:nt≠0->ad=⟨ty,e2+W,none⟩)(k:n<=nt)(z:x=n*fz2)(hl:dE O d W x=some X):∃j:List Value,be J X j/\X.length=x/\∀g:World,g.heap=F.heap->(loadCells ad x).run P g=.ok j.toArray g:=by
 unfold dE at hl;split at hl
 .rename_i c G e r aK fz hi;have⟨s,_,_⟩:=A4 x c G W X hl;rcases Nat.eq_zero_or_pos x with h0|h0;·subst h0;simp only[fZ,aa9]at hl;subst hl;exact⟨[],by trivial,rfl,λg _=>by rfl⟩
  have t:n≠0:=by intro e;subst e;omega
  have:=i aa;subst this;have⟨A,B,m,h,u,y,f⟩:=l.aE (i:=d) (by grind);rw[hb]at h;injection h with h;injection h with p q;subst p;subst q;rw[hi]at f;cases m with|cells cs C fr=>have⟨D,E⟩:=A5 f hl;grind[yX]|_=>trivial
 grind
theorem DT(j:bm P N J O F)(g:VR J L I)(h:gh O W L=some (x,X)):∃f:List Value,be J X f/\X.length=x*W/\(∀c:World,(Builtin.lenOf I).run P c=.ok x c)/\∀c:World,c.heap=F.heap->(Builtin.firstCells W x I).run P c=.ok f.toArray c:=by
 unfold gh at h;split at h;·obtain⟨rfl,rfl⟩:=h;have:=g.lh;subst this;exact⟨[],by trivial,aC,λc=>by rfl,λc _=>by rfl⟩
 .split at h;·rename_i q hl;obtain⟨rfl,rfl⟩:=h;obtain⟨ad,r,rfl,y,A,B,E,z,hb,k,C⟩:=g.l8;have⟨f,l,m,n⟩:=Ih (P:=P) j hb k aa rfl hl;exact⟨f,l,m,λc=>by rfl,λc p=>by simp[n,p,Builtin.firstCells]⟩
  grind
 .rename_i s;split at h
  .rename_i d;have d:=ahn d;subst d;obtain⟨rfl,rfl⟩:=h;obtain⟨t,i,rfl⟩:=g.mQ;have e:t.size=s.length:=by rw[<-i,ahs,aia];rfl
   refine⟨t.data.toList.map λE=>.int .u8 E.toNat,?_,aC,λc=>by simp[e,Builtin.lenOf],λc _=>?_⟩;·rw[<-i];generalize t.data.toList=X;induction X with|nil=>trivial|cons u X D=>trivial
   simp only[Builtin.firstCells,Sem.run_pure,Result.ok.injEq,and_true];rw[<-e];have:t.extract 0 t.size=t:=by apply ByteArray.ext;rw[ByteArray.data_extract];exact Array.extract_size
   grind
  grind
 grind
theorem DU(w:World)(A:Array Value)(L:List Value)(e:TypeId)(h:A.toList=L):w.alloc (.cells A e)={w with heap:=w.heap.push (.cells L.toArray e (0,0))}:=by subst h;rfl
theorem PW(A:bm P N J O w){sv:Value}(hs:VR J L sv){argTypes:Array TypeId}{ag:Nat}{cE:List Value}(Y:sM P w argTypes n W m x cE)(hl:be J X cE)(t:X.length=x*W)(hT:argTypes[0]?=some nt)(hu:P.underlying nt=some (.slice n))(q:eW P n=some W)(b0:ww P n=some ag)(hz:∀w,(zeroValue n).run P w=.ok I w)(a1:I.cells.size=W)(he:jk n ag W O L x X=some (r,V)):∃c w',(Builtin.append_ argTypes ty #[sv,m]).run P w=.ok c w'/\cM P N J w r V c w':=by
 have⟨ti,a2,a6⟩:=DN b0;have b3:=be.length hl;unfold jk at he;split at he;·cases he
 rename_i G;have G:cU X=true:=by simpa using G
 have s:dk N w w.drew:=(dk.refl N w).drew;split at he
 .have:=hs.lh;subst this;have f:=Y.run ty (.slice none 0 0) none 0 0 rfl nt hT hu q;split at he;·rename_i p;have p:=ahn p;subst p;obtain⟨rfl,rfl⟩:=he;exact⟨_,w,f.1 aa w aC,cM.bI A (by simp[VR])⟩
  rename_i p;have p:x≠0:=λn=>p (by subst n;rfl);split at he
  .rename_i l;simp only[ahl]at l;obtain⟨rfl,rfl⟩:=he;have b4:=grownCap_ge w (0+x) 0 n;have h2:=f.2 aa ti a2 (by rw[ahw,a6];exact sL l.1) (by rw[ahw];exact sL l.2) I hz #[] (by simp[Builtin.firstCells]);have⟨q1,q2,q3⟩:=wG (P:=P) (w:=w.drew) A.drew hl n (x*W) t.symm (Builtin.zeroCells I.cells (grownCap w (0+x) 0 n - (0+x))).toList;refine⟨_,_,h2,_,q1,?_,?_,?_⟩;·refine⟨aa,aeE _,aa,(λh=>by cases h),_,_,aP.eA ..,λ_=>rfl,λ_=>?_⟩;rw[aP.sF];simp only[q,aii,ae8,aia,DS,a1,<-b3,t];rw[Nat.sub_mul];have:=ahS W b4;simp only[ahw]at this⊢;omega
   .rw[DU _ _ (cE++(Builtin.zeroCells I.cells (grownCap w (0+x) 0 n - (0+x))).toList) _ aC];exact q2
   rw[DU _ _ (cE++(Builtin.zeroCells I.cells (grownCap w (0+x) 0 n - (0+x))).toList) _ aC];exact s.trans q3
  cases he
 .rename_i id off len cap ex;obtain⟨ad,B,rfl,q1,q2,q3,cR,D,hb,q4,q5⟩:=hs.l8;have f:=Y.run ty (.slice (some ad) len B) (some ad) len B rfl nt hT hu q;simp only at he;split at he
  .rename_i d;have d:=aht d;split at he
   .rename_i p;have p:=ahn p;subst p;obtain⟨rfl,rfl⟩:=he;have b6:cE=[]:=by rw[Nat.zero_mul]at t;exact List.length_eq_zero_iff.1 aa
    subst b6;refine⟨_,w,f.1 aa w (by simp[storeCells]),cM.bI A ?_⟩;simp only[VR];exact⟨trivial,d,q2,q3,cR,D,hb,q4,q5⟩
   rename_i p;have p:x≠0:=λn=>p (by subst n;rfl);split at he
   .rename_i H2 hw;obtain⟨rfl,rfl⟩:=he;have:=q4 aa;subst this;have⟨k1,k2,k3⟩:=yZ A hw hb hl;refine⟨_,_,f.1 aa _ ?_,J,b9.refl J,?_,k2,k3⟩;·simp only[sG];rw[show D+off+len*W=D+(off+len*W)by omega];exact k1
    simp only[VR];exact⟨trivial,d,q2,q3,cR,D,hb,q4,q5⟩
   cases he
  rename_i d;have d:¬len+x<=cap:=λh=>d (ahV h);split at he;·cases he
  rename_i l;have l:dU ((len+x)*ag)=true/\dU (len+x)=true:=by simpa using l
  split at he
  .rename_i c mm e2 cn aK fz hi;split at he;·cases he
   rename_i cI eg;have b7:dE O id off (len*W)=some cI:=by unfold dE;rw[hi];exact eg
   have⟨C,g1,g2,g3⟩:=Ih (P:=P) A hb q4 aa rfl b7;have b':(Builtin.firstCells W len (.slice (some ad) len B)).run P w.drew=.ok C.toArray w.drew:=by simp only[Builtin.firstCells];exact g3 _ rfl
   have eC:be J (cI++X) (C++cE):=be.append g1 hl;have i:(len+x)*W=(cI++X).length:=by rw[ae8,g2,t,aiT]
   have K:=be.length eC;have M:¬len+x<=B->∃e:List Value,e.length=(grownCap w (len+x) B n - (len+x))*W/\len+x<=grownCap w (len+x) B n/\(Builtin.append_ argTypes ty #[.slice (some ad) len B,m]).run P w=.ok (.slice (some ⟨w.heap.size,0,none⟩) (len+x) (grownCap w (len+x) B n)) {w.drew with heap:=w.heap.push (.cells (C++cE++e).toArray n (0,0))}:=by intro p;refine⟨(Builtin.zeroCells I.cells (grownCap w (len+x) B n - (len+x))).toList,by rw[aia,DS,a1],grownCap_ge ..,?_⟩;have h2:=f.2 p ti a2 (by rw[a6];exact sL l.1) (sL l.2) I hz C.toArray b';rw[h2,DU _ _ (C++cE++(Builtin.zeroCells I.cells (grownCap w (len+x) B n - (len+x))).toList) _ aC];rfl
   split at he;·rename_i E;obtain⟨rfl,rfl⟩:=he;have cp:=q3 E;have⟨e,r1,r2,r3⟩:=M aa;have⟨p1,p2,p3⟩:=wG (P:=P) (w:=w.drew) A.drew eC n ((len+x)*W) i e;refine⟨_,_,r3,_,p1,?_,p2.A3 rfl,(s.trans p3).A3 rfl rfl rfl rfl⟩;simp only[VR];refine⟨trivial,aeE _,r2,(λh=>by cases h),_,_,aP.eA ..,λ_=>rfl,λ_=>?_⟩;rw[aP.sF];simp only[q,aii,ae8 (as:=C++cE),r1,<-K,<-i];rw[Nat.sub_mul];have:=ahS W r2;omega
   rename_i E;have E:ex=false:=by simpa using E
   subst E;split at he;case isFalse=>cases he
   rename_i Q;simp only[ahl]at Q;have⟨⟨⟨⟨ca,av⟩,Z⟩,aw⟩,a8⟩:=Q;subst ca;have av:=ahn av;have Z:=ahn Z;have aw:=(ahn aw).symm;have a8:=aht a8;subst av;subst aw;obtain⟨rfl,rfl⟩:=he;have a':O.get id≠.none:=by rw[hi];simp
   have⟨cy,x',ob,e',cv,S,T⟩:=A.aE a';rw[hb]at e';injection e' with e';injection e' with e1 cx;subst e1;have g:=A.iK id cR D ob a' hb S;rw[hi]at T g;cases ob with
   |cells cs el fr=>
    simp only[OR]at T;simp only[eQ,q,aii]at g;have⟨o1,o2,o3,o4⟩:=T;have R:=q5 rfl;rw[g]at R;simp only at R;by_cases u:len+x<=B
    .have bc:B≠0:=aa;have:=q4 bc;subst this;have bv:=ahS W u;rw[aiT]at bv;have dg:=HL (P:=P) w S (D+off+len*W) cE aa (λj cd ax=>o4 trivial j aa aa) (be.DM hl G);have⟨f1,f2,f3,f4⟩:=DL cR el fr cE w cs (D+off+len*W) S;have ay:=A4 (len*W) c mm off cI eg;obtain⟨p1,p2,p3⟩:=A.HM (w':=w.setCells cR (D+off+len*W) cE) hi hb (c2:=cr (cI++X)) (n2:=(len+x)*W) (e2:=n) (fz2:=fz - off) (b2:=cR) (x2:=D+off) (ob2:=.cells (wr cs (D+off+len*W) cE) el fr) (J.k cR) (by simp only[eQ,rD,q,aii];exact g) (λ_=>rfl) (by
      refine⟨o1,by rw[rD,aiT];omega,λj hj=>?_,λ_ j cd ax=>o4 trivial j aa (by rw[rD]at ax;exact ax)⟩;have z:b9 J (J.add O.next cR (D+off) (J.k cR)):=aP.qi _ _ _ (A.du _ (aeE _)).2 (λ_ _ _ _ hc=>by rw[<-hc]);rw[nN _ _ aa,yY _ _ _ _ aa];by_cases cf:j<len*W;·rw[an aa];have⟨y,hy,F⟩:=o3 (off+j) aa;refine⟨y,by rw[<-hy];congr 1;omega,VR.mono z _ _ ?_⟩;simp only[List.getD];rw[ahE aa,ay.2.2 j cf];exact F
      rw[aF (by rw[aiT]at hj;omega)];have ba:j - len*W<X.length:=by rw[aiT]at hj;omega
      have⟨y,hy,F⟩:=be.get hl (j - len*W) X[j - len*W] (by simp[ba]);refine⟨y,by rw[<-hy];congr 1;omega,VR.mono z _ _ ?_⟩;simp only[List.getD];rw[ais aa,g2,ah7 ba];exact F) f2 f3 f4 (.inr ⟨rfl,f1,by rw[aiT];omega,cs,_,el,fr,S,rfl,rD ..,λj hj=>by rw[yY _ _ _ _ aa,an aa]⟩);refine⟨_,_,f.1 u _ (by simp only[sG];exact dg),_,p1,?_,p2,p3⟩;simp only[VR];refine⟨trivial,aeE _,u,(λh=>by cases h),_,_,aP.eA ..,λ_=>by simp,λ_=>?_⟩;rw[aP.sF,g];simp only;omega
    have⟨e,r1,r2,r3⟩:=M u;obtain⟨p1,p2,p3⟩:=A.drew.HM (w':={w.drew with heap:=w.heap.push (.cells (C++cE++e).toArray n (0,0))}) hi hb (c2:=cr (cI++X)) (n2:=(len+x)*W) (e2:=n) (fz2:=fz - off) (b2:=w.heap.size) (x2:=0) (ob2:=.cells (C++cE++e).toArray n (0,0)) ((C++cE++e).length,W) (by simp only[eQ,q,aii,List.size_toArray]) (λh=>by omega) (by
     simp only[OR];refine⟨trivial,by rw[List.size_toArray,ae8 (as:=C++cE),<-K];omega,λj hj=>?_,λ_ j _ _=>by omega⟩;have z:b9 J (J.add O.next w.heap.size 0 ((C++cE++e).length,W)):=aP.qi _ _ _ (A.du _ (aeE _)).2 (λj' c' y' e' hc=>by have:=A.ef j' c' y' e';omega);rw[nN _ _ aa];have bb:j<(cI++X).length:=aa;have⟨y,hy,F⟩:=be.get eC j (cI++X)[j] (by simp only[ah7 bb]);refine⟨y,?_,VR.mono z _ _ ?_⟩;·rw[ahw,List.getElem?_toArray,ahE aa];exact hy
     simp only[List.getD];rw[ah7 bb];exact F) rfl rfl rfl (.inl ⟨rfl,rfl⟩);refine⟨_,_,r3,_,p1,?_,p2,s.trans p3⟩;simp only[VR];refine⟨trivial,aeE _,r2,(λh=>by cases h),_,_,aP.eA ..,λ_=>rfl,λ_=>?_⟩;rw[aP.sF];simp only[ae8 (as:=C++cE),r1,<-K,<-i];rw[Nat.sub_mul];have:=ahS W r2;omega
   |_=>simp[OR]at T
  cases he
 cases he
theorem PX(h:dl P N J V F x M a){c:Call}(ho:D.op=.call c)(hb:c.callee=.builtin .append)(g:bK P x D=some Q)(he:aH Q M V=some (L,O)):bC P N J F (execOp a.eval D) L O:=by
 simp only[bK,ho,hb,aeX,abF]at g;have⟨t,ht,d,hd,g⟩:=g;have⟨S,Z⟩:=uq (P:=P) (a:=a) ho hb F;split at g
 .rename_i e;simp only[abF]at g;have⟨size,ag,z,hz,g⟩:=g;split at g;·grind
  rename_i j;have f:z.cells.length=size/\size≠0/\c.args.size=2:=by simpa[not_or]using j
  have j:z.cells.length=size/\size≠0:=⟨f.1,f.2.1⟩;have av:=f.2.2;simp only[abF,ahe,aa9]at g;obtain⟨xT,q,d2,r,aw,s,os,⟨ys,ax,C⟩,ox,⟨T,ay,E⟩,rfl⟩:=g;have⟨zv,u,y,A⟩:=sI hz;have B:zv.cells.size=size:=by have:=be.length (VR.cells (y J) A);simp at this;omega
  have gs:=h.gv C;have W:=h.gv E;have p:c.args.map a.eval= #[a.eval ys,a.eval T]:=by apply Array.ext_getElem?;intro i;match i with|0=>simp[ax]|1=>simp[ay]|i+2=>rw[aiq (by simp[av]),aiq aC]
  have G:(execOp a.eval D).run P F=((Builtin.append_ c.argTypes D.type #[a.eval ys,a.eval T]).run P F).andThen λL F=>.ok (.value L) F:=by rw[Z];simp only[builtin,p,Sem.run_bind,Sem.run_pure]
  have aq:∀{n:Nat}{l:List AV}{m:List Value},sM P F c.argTypes e size (a.eval T) n m->be J l m->l.length=n*size->jk e aw size V (gv M os) n l=some (L,O)->bC P N J F (execOp a.eval D) L O:=by intro n l m K hl R he;have⟨c',w',X,Y⟩:=PW (ty:=D.type) h.I gs K hl R ht hd ag s u B he;exact bC.val (by rw[G,X];rfl) Y
  simp only[aH]at he;split at he
  .simp only[bg]at he;split at he
   .rename_i n hv;split at he;·rename_i hs;simp only[ahl]at hs;rw[hv]at W;have⟨k',a2,hx⟩:=W.i6;rw[hx]at aq;refine aq (sM.PV q r s (sL hs.1) (sL hs.2) u B) (Bc (VR.cells (y J) A) n aa) (by simp[j,za]) he
    grind
   grind
  rename_i hm;simp only[abH,bF]at he;split at he;·rename_i n l a1;have⟨ms,X,Y,k3,k4⟩:=DT (P:=P) h.I W a1;exact aq (sM.PU q r (λk e=>hm k e) k3 (k4 _ rfl) (k4 _ rfl)) X Y he
  grind
 grind
theorem PY(h:dl P N J O F x M a){c:Call}(ho:D.op=.call c)(hb:c.callee=.builtin .copy)(R:bK P x D=some Q)(he:aH Q M O=some (L,V)):bC P N J F (execOp a.eval D) L V:=by
 simp only[bK,ho,hb,aeX,abF]at R;have⟨t,ht,d,hd,R⟩:=R;have⟨av,y⟩:=uq (P:=P) (a:=a) ho hb F;split at R
 .rename_i e;simp only[abF,ahe,aa9]at R;obtain⟨size,A,od,⟨yd,aw,Y⟩,os,⟨T,ax,Z⟩,rfl⟩:=R;have gd:=h.gv Y;have j:=h.gv Z;have B:(c.args.map a.eval)[0]?=some (a.eval yd):=by simp[aw]
  have C:(c.args.map a.eval)[1]?=some (a.eval T):=by simp[ax]
  simp only[aH]at he;split at he
  .rename_i p hv k;have⟨n,l⟩:=p;simp only[aa9,afm]at he;obtain⟨rfl,rfl⟩:=he;rw[hv]at gd;have hx:=gd.lh;have⟨S,k1,k2,k3,k4⟩:=DT (P:=P) h.I j k;have ay:(Builtin.firstCells size 0 (a.eval T)).run P F=.ok #[] F:=by have:=k4 F rfl;revert this;cases a.eval T with|slice cy l c=>cases cy<;>simp[Builtin.firstCells,loadCells,loadCellsFrom]|string s=>intro _;simp[Builtin.firstCells]|_=>simp[Builtin.firstCells]
   refine bC.val (c:=goInt 0) (w':=F) ?_ (cM.bI h.I (VR.goInt J 0));rw[y];simp[builtin,Builtin.copy_,ht,bS hd,B,C,hx,k3,iM A,ay]
  .rename_i id off len cap ex n l hv k;rw[hv]at gd;have⟨ad,cp,hx,q1,q2,q3,cy,z,a1,q4,q5⟩:=gd.l8;have⟨S,k1,k2,k3,k4⟩:=DT (P:=P) h.I j k;have g:(Builtin.firstCells size (min n len) (a.eval T)).run P F=.ok (S.take (min n len*size)).toArray F:=by
    have:=k4 F rfl;have b3:=be.length k1;revert this;cases m:a.eval T with
    |slice b0 ll cc=>
     cases b0 with
     |none=>
      simp only[Builtin.firstCells,Sem.run_pure,Result.ok.injEq,and_true];intro h;have:S=[]:=by simpa using h.symm
      subst this;simp
     |some b4=>
      intro _;rw[m]at j;have f:=k;unfold gh at f;split at f;·rename_i u;rw[u]at j;have:=j.lh;cases this
      .rename_i a2 q bb bc b6 u;rw[u]at j;have⟨b7,b',e3,r1,r2,r3,cv,z3,a6,r4,r5⟩:=j.l8;simp only[Value.slice.injEq,aa9]at e3;obtain⟨rfl,rfl,rfl⟩:=e3;split at f
       .rename_i l' r;simp only[aa9,afm]at f;obtain⟨rfl,rfl⟩:=f;simp only[Builtin.firstCells];unfold dE at r;split at r
        .rename_i c3 n3 e4 ca bv cd W;have i:=k4 F rfl;rw[m]at i;simp only[Builtin.firstCells]at i;rcases Nat.eq_zero_or_pos (min n3 0+min ll len*size)with h0|h0;·have:min ll len*size=0:=aa;rw[this];simp[loadCells,loadCellsFrom]
         have a8:min ll len*size≠0:=aa;have cf:ll≠0:=by intro e;subst e;simp at a8
         have:=r4 aa;subst this;obtain⟨cx,x',ob,e',cn,X,E⟩:=h.I.aE (i:=a2) (by rw[W];simp);rw[a6]at e';injection e' with e';injection e' with e1 e2;subst e1;subst e2;rw[W]at E;cases ob with
         |cells cs el fr=>
          have⟨w1,w2⟩:=A5 E r;have ag:min ll len*size<=ll*size:=ahS size (Nat.min_le_left _ _);have a':=w2 aa;have e5:=yX (P:=P) F X (z3+q) (ll*size) a';rw[i]at e5;simp only[Result.ok.injEq,and_true]at e5;have e6:S=List.take (ll*size) (List.drop (z3+q) cs.toList):=by simpa using e5
          rw[yX (P:=P) F X (z3+q) (min ll len*size) aa,e6,List.take_take,aiQ ag]
         |_=>simp[OR]at E
        cases r
       cases f
      .rename_i u;rw[u]at j;obtain⟨t,_,e⟩:=j.mQ;cases e
      cases f
    |string s=>
     simp only[Builtin.firstCells,Sem.run_pure,Result.ok.injEq,and_true];intro u;rw[m]at j;have f:=k;unfold gh at f;split at f;·rename_i G;rw[G]at j;have:=j.lh;cases this
     .rename_i G;rw[G]at j;obtain⟨_,_,e,_⟩:=j.l8;cases e
     .split at f
      .rename_i K;have K:=ahn K;subst K;have e6:S=((s.extract 0 n).data.map λcy=>Value.int .u8 cy.toNat).toList:=by rw[u]
       rw[e6,aiE];apply Array.toList_inj.1;simp only[Array.toList_map,ByteArray.data_extract,Array.toList_extract,List.extract_eq_drop_take,aiX,aiW];rw[<-List.map_take,List.take_take];congr 2;omega
      cases f
     cases f
    |_=>simp[Builtin.firstCells]
   split at he;·rename_i hm;simp only[aa9,afm]at he;obtain⟨rfl,rfl⟩:=he;rw[hm]at g;refine bC.val (c:=goInt 0) (w':=F) ?_ (cM.bI h.I (VR.goInt J 0));have ba:Nat.min n len=0:=hm;rw[y];simp[builtin,Builtin.copy_,ht,bS hd,B,C,hx,k3,iM A,ba,g,storeCells]
   rename_i hm;split at he;·rename_i H2 hw;simp only[aa9,afm]at he;obtain⟨rfl,rfl⟩:=he;have:=q4 aa;subst this;have⟨p1,p2,p3⟩:=yZ h.I hw a1 (be.take (min n len*size) k1);refine bC.val (c:=goInt ((min n len:Nat):Int)) (w':=F.setCells cy (z+off) (S.take (min n len*size))) ?_ ⟨J,b9.refl J,VR.goInt J _,p2,p3⟩;rw[y];simp only[builtin,Builtin.copy_,ht,B,C,Sem.run_bind,bS hd,Result.andThen_ok,hx,k3,iM A];rw[show Nat.min n len=min n len from rfl,g];simp[p1]
   cases he
  cases he
 grind
theorem PZ(h:dl P N J O F x M a){c:Call}(S:D.op=.call c)(hb:c.callee=.builtin .clear)(j:bK P x D=some Q)(he:aH Q M O=some (L,V)):bC P N J F (execOp a.eval D) L V:=by
 simp only[bK,S,hb,aeX,abF]at j;have⟨t,A,d,hd,j⟩:=j;have⟨C,e⟩:=uq (P:=P) (a:=a) S hb F;split at j
 .simp only[abF,ahe,aa9]at j;obtain⟨z,T,od,⟨W,K,s⟩,rfl⟩:=j;have⟨zv,l,m,p⟩:=sI T;have B:=h.gv s;have f:(c.args.map a.eval)[0]?=some (a.eval W):=by simp[K]
  simp only[aH]at he;split at he;·rename_i E;obtain⟨rfl,rfl⟩:=he;rw[E]at B;have k:=B.lh;refine bC.val (c:=.tuple #[]) (w':=F) ?_ (cM.bI h.I (VR.ai8 J));rw[e];simp[builtin,Builtin.clear_,A,f,bS hd,k]
  .rename_i id off n cap ex E;rw[E]at B;have⟨ad,cp,k,q1,q2,q3,ag,y,q,X,q5⟩:=B.l8;split at he;·rename_i Y;obtain⟨rfl,rfl⟩:=he;subst Y;refine bC.val (c:=.tuple #[]) (w':=F) ?_ (cM.bI h.I (VR.ai8 J));rw[e];simp[builtin,Builtin.clear_,A,f,bS hd,k]
   split at he
   .rename_i H2 G;obtain⟨rfl,rfl⟩:=he;have:=X aa;subst this;by_cases r:z.cells.length=0
    .have u:z.cells=[]:=List.length_eq_zero_iff.1 r;have i:∀n,dZ z.cells n=[]:=by intro n;rw[u];induction n with|zero=>rfl|succ n Z=>simp[dZ,Z]
     rw[i]at G;have R:zv.cells.size=0:=by have:=be.length (VR.cells (m J) p);simp at this;omega
     have⟨p1,p2,p3⟩:=yZ h.I G q (m:=[]) (by trivial);refine bC.val (c:=.tuple #[]) (w':=F.setCells ag (y+off) []) ?_ ⟨J,b9.refl J,VR.ai8 J,p2,p3⟩;rw[e];have g:(Builtin.zeroCells zv.cells n).toList=[]:=by apply List.length_eq_zero_iff.1;rw[aia,DS,R];omega
     simp[builtin,Builtin.clear_,A,f,bS hd,k,l,g,p1]
    have⟨p1,p2,p3⟩:=yZ h.I G q (Bc (VR.cells (m J) p) n r);refine bC.val (c:=.tuple #[]) (w':=F.setCells ag (y+off) ((ai7 (n*zv.cells.size)).map (zv.cells[·% zv.cells.size]!)).toList) ?_ ⟨J,b9.refl J,VR.ai8 J,p2,p3⟩;rw[e];have g:(Builtin.zeroCells zv.cells n).toList=((ai7 (n*zv.cells.size)).map (zv.cells[·% zv.cells.size]!)).toList:=rfl;simp only[builtin,Builtin.clear_,A,f,Sem.run_bind,bS hd,Result.andThen_ok,k,l,g,p1,Sem.run_pure]
   grind
  grind
 grind
def DV(B:Program)(J:aP)(f:Nat):Prop:=∀{const:Bool}{t:TypeId}{d:dB},iA B f const t=some d->∀{g:Nat}{x y:AV}{r:Bool},db g d x y=some r->
 ∀{c e:Value},VR J x c->VR J y e->∀(n:Nat)(F:World),f<=n->(Op.equalIn n t c e).run B F=.ok r F
theorem Ii(h:DV P J x){q:List AV}{t:Array Value}(u:be J X E.toList)(z:be J q t.toList)(n:Nat)(w:World)(i:x<=n):∀(f:List Field)(l:List (Nat×Nat×Bool×dB))(g:Nat)(r:Bool),(f.mapM λ(g:Field)=>if g.name= "_" then none else match iA P x false g.type,eW P g.type,mO P g.type with|some d,some s,some C=>some (g.offset,s,C,d)|_,_,_=>none)=some l->db.go g X q l=some r->(Op.eqFields n E t f).run P w=.ok r w
 |[],l,g,r,h1,h2=>by simp only[List.mapM_nil,ahe,aa9]at h1;subst h1;unfold db.go at h2;simp only[aa9]at h2;subst h2;simp[Op.eqFields]
 |K::f,l,g,r,h1,h2=>by
  simp only[aiO,aeX,abF,ahe,aa9]at h1;obtain⟨p,c,F,j,rfl⟩:=h1;split at c;·cases c
  rename_i e;split at c
  .rename_i d s C hd hs A;injection c with c;subst c;cases g with
   |zero=>simp[db.go]at h2
   |succ g=>
    simp only[db.go]at h2;split at h2
    .rename_i N y k m;have⟨L,G,B⟩:=uo (P:=P) (w:=w) u A hs k;have⟨M,I,D⟩:=uo (P:=P) (w:=w) z A hs m;simp only[Op.eqFields,e,ne_eq,not_false_eq_true,bg,Sem.run_bind,G,I,Result.andThen_ok];split at h2;·rename_i he;rw[h hd he B D n w i];exact Ii h u z n w i f F g r j h2
     .rename_i he;injection h2 with h2;subst h2;rw[h hd he B D n w i];simp
     cases h2
    cases h2
  cases c
theorem Ij(c:DV P J W){k:List AV}{l:Array Value}(m:be J X E.toList)(p:be J k l.toList)(n:Nat)(w:World)(d:W<=n)(hd:iA P W false A=some e)(hs:eW P A=some x)(f:mO P A=some Z):∀(is:List Nat)(g:Nat)(r:Bool),db.go g X k (is.map λi=>(i*x,x,Z,e))=some r->(Op.eqItems n A x E l is).run P w=.ok r w
 |[],g,r,h2=>by simp only[aiz]at h2;unfold db.go at h2;simp only[aa9]at h2;subst h2;simp[Op.eqItems]
 |i::is,g,r,h2=>by
  cases g with
  |zero=>simp[db.go]at h2
  |succ g=>
   simp only[ahk,db.go]at h2;split at h2
   .rename_i C y h j;have⟨z,t,q⟩:=uo (P:=P) (w:=w) m f hs h;have⟨B,u,s⟩:=uo (P:=P) (w:=w) p f hs j;simp only[Op.eqItems,Sem.run_bind,t,u,Result.andThen_ok];split at h2;·rename_i he;rw[c hd he q s n w d];exact Ij c m p n w d hd hs f is g r h2
    .rename_i he;injection h2 with h2;subst h2;rw[c hd he q s n w d];simp
    cases h2
   cases h2
set_option maxHeartbeats 1000000 in theorem Bf(ρ:aP)(f:Nat):DV B ρ f:=by
 induction f with
 |zero=>intro const t d h;simp[iA]at h
 |succ f S=>
  intro const t d h g x y r he xv yv c k n F hn;cases n with
  |zero=>omega
  |succ n=>
   have J:f<=n:=aa;unfold iA at h;split at h;all_goals(rename_i hu)
   .injection h with h;subst h;unfold db at he;split at he<;>(try(rename_i m;cases m;done))<;>(try(cases he;done));injection he with he;rw[c.pj,k.pj,<-he];exact run_equalIn_bool' F n t _ _ hu
   .injection h with h;subst h;unfold db at he;split at he<;>(try(rename_i m;cases m;done))<;>(try(cases he;done));split at he;·rename_i T;injection he with he;obtain⟨k1,h1,rfl⟩:=c.i6;obtain⟨k2,h2,rfl⟩:=k.i6;have:=ul (h1.symm.trans (T.trans h2));subst this;rw[<-he,dW];exact run_equalIn_int F n t _ _ _ _ hu
    cases he
   .injection h with h;subst h;unfold db at he;split at he<;>(try(rename_i m;cases m;done))<;>(try(cases he;done));injection he with he;obtain⟨t1,h1,rfl⟩:=c.mQ;obtain⟨t2,h2,rfl⟩:=k.mQ;subst h1;subst h2;rw[<-he,<-HS];exact run_equalIn_string F n t _ _ hu
   .split at h
    .rename_i s0 O;injection h with h;subst h;unfold db at he;split at he<;>(try(rename_i m;cases m;done))<;>(try(cases he;done));·injection he with he;subst he;rw[c.A7,k.A7];simp[Op.equalIn,bS hu]
     .injection he with he;subst he;have⟨ag,z,h1,h2⟩:=k.l7;rw[c.A7,h2];simp[Op.equalIn,bS hu]
     .injection he with he;subst he;have⟨ag,z,h1,h2⟩:=c.l7;rw[k.A7,h2];simp[Op.equalIn,bS hu]
     rename_i _ i _ j _;split at he
     .rename_i hb;have hb:=ah.ft.1 hb;subst hb;injection he with he;obtain⟨ag,z,h1,rfl⟩:=c.l7;obtain⟨b',z',u,rfl⟩:=k.l7;rw[h1]at u;injection u with u;injection u with V W;subst V;subst W;simp only[Op.equalIn,Sem.run_bind,bS hu,Result.andThen_ok,iM O];rw[<-he];have:((⟨ag,z+i,none⟩:Addr)==⟨ag,z+j,none⟩)=ahr i j:=by
       rw[aiI,beq_iff_eq,Addr.mk.injEq];constructor;·intro h;have:i=j:=aa;subst this;exact ait _
       intro h;have:=ahn h;subst this;simp
      simp[sameAddr,this]
     cases he
    cases h
   .injection h with h;subst h;unfold db at he;split at he<;>(try(rename_i m;cases m;done))<;>(try(cases he;done));all_goals injection he with he;subst he
    .rw[c.lh,k.lh];simp[Op.equalIn,bS hu]
    .have⟨ad,X,h1,_⟩:=k.l8;rw[c.lh,h1];simp[Op.equalIn,bS hu]
    have⟨ad,X,h1,_⟩:=c.l8;rw[k.lh,h1];simp[Op.equalIn,bS hu]
   .injection h with h;subst h;unfold db at he;split at he<;>(try(rename_i m;cases m;done))<;>(try(cases he;done));all_goals injection he with he;subst he
    .rw[c.sH,k.sH];simp[Op.equalIn,bS hu]
    .have⟨ag,_,h1⟩:=k.po;rw[c.sH,h1];simp[Op.equalIn,bS hu]
    have⟨ag,_,h1⟩:=c.po;rw[k.sH,h1];simp[Op.equalIn,bS hu]
   .injection h with h;subst h;unfold db at he;split at he<;>(try(rename_i m;cases m;done))<;>(try(cases he;done));all_goals injection he with he;subst he
    .rw[c.wC,k.wC];simp[Op.equalIn,bS hu]
    .have⟨p,q,_,_,h1⟩:=k.A8;rw[c.wC,h1];simp[Op.equalIn,bS hu]
    .have⟨p,q,_,_,h1⟩:=c.A8;rw[k.wC,h1];simp[Op.equalIn,bS hu]
    .have⟨p,q,h1⟩:=k.A9;rw[c.wC,h1];simp[Op.equalIn,bS hu]
    have⟨p,q,h1⟩:=c.A9;rw[k.wC,h1];simp[Op.equalIn,bS hu]
   .injection h with h;subst h;unfold db at he;split at he<;>(try(rename_i m;cases m;done))<;>(try(cases he;done))
    .split at he;·injection he with he;subst he;rw[c.y7,k.y7];simp[Op.equalIn,bS hu]
     cases he
    .injection he with he;subst he;have⟨p,_,h1⟩:=k.wB;rw[c.y7,h1];simp[Op.equalIn,bS hu]
    .injection he with he;subst he;have⟨p,_,h1⟩:=c.wB;rw[k.y7,h1];simp[Op.equalIn,bS hu]
    rename_i t1 _ t2 _ _;split at he;·cases he
    rename_i Q;injection he with he;subst he;obtain⟨p,_,rfl⟩:=c.wB;obtain⟨q,_,rfl⟩:=k.wB;have:¬t1=t2:=λe=>Q (by subst e;exact ait _);simp only[Op.equalIn,Sem.run_bind,bS hu,Result.andThen_ok,ne_eq,this,not_false_eq_true,bg,Sem.run_pure]
   .split at h;·cases h
    rename_i dg;rw[ae2]at h;obtain⟨l,hl,rfl⟩:=h;unfold db at he;split at he<;>(try(rename_i m;cases m;done))<;>(try(cases he;done));rename_i A;cases A;obtain⟨M,E,rfl⟩:=c.rE;obtain⟨N,G,rfl⟩:=k.rE;have I:=congrArg (λ(D:Option TypeDesc)=>match D with|some (.struct Y)=>Y|_=> #[]) hu;change B.fieldsOf t=_ at I;rw[run_equalIn_struct F n t M N (by rw[hu,I]) (by simpa using dg),I];exact Ii S E G n F J _ _ _ _ hl he
   .split at h;·rename_i d s C hd hs Z;injection h with h;subst h;unfold db at he;split at he<;>(try(rename_i m;cases m;done))<;>(try(cases he;done));rename_i A;cases A;obtain⟨M,E,rfl⟩:=c.rE;obtain⟨N,G,rfl⟩:=k.rE;have⟨ti,K,R⟩:=HN hs;rw[run_equalIn_array F n M N hu K];have L:=congrArg (λ(D:Option TypeInfo)=>(D.map (·.size)).getD 0) K;change B.cellsOf _=_ at L;rw[L,show(Option.map (λi:TypeInfo=>i.size) (some ti)).getD 0=s from R];exact Ij S E G n F J hd hs Z _ _ _ he
    cases h
   cases h
section
variable{v:AV}
def DW(B:Program)(J:aP)(em:Bool)(f:Nat):Prop:=∀{const:Bool}{t:TypeId}{d:dB},iA B f const t=some d->∀{g:Nat}{x:AV},pZ g d x=true->
 ∀{c:Value},VR J x c->∀(n:Nat)(F:World),f<=n->(Instr.checkKey em n t c).run B F=.ok () F
theorem Ik(j:DW P J Z x)(k:be J X E.toList)(n:Nat)(w:World)(m:x<=n):∀(e:List Field)(l:List (Nat×Nat×Bool×dB))(g:Nat),(e.mapM λ(g:Field)=>if g.name= "_" then none else match iA P x false g.type,eW P g.type,mO P g.type with|some d,some s,some C=>some (g.offset,s,C,d)|_,_,_=>none)=some l->pZ.go g X l=true->(forIn e PUnit.unit λ(x:Field)r=>(if x.name≠ "_" then(do(Instr.checkKey Z n x.type (<-part x.type E x.offset));pure (ForInStep.yield PUnit.unit))else pure (ForInStep.yield PUnit.unit):Sem (ForInStep PUnit))).run P w=.ok PUnit.unit w
 |[],l,g,h1,h2=>by rfl
 |y::e,l,g,h1,h2=>by
  simp only[aiO,aeX,abF,ahe,aa9]at h1;obtain⟨p,c,q,f,rfl⟩:=h1;split at c;·grind
  rename_i i;split at c
  .rename_i d s C hd hs t;injection c with c;subst c;cases g with
   |zero=>trivial
   |succ g=>
    simp only[pZ.go]at h2;split at h2;·rename_i D h;simp only[ahl]at h2;have⟨z,A,u⟩:=uo (P:=P) (w:=w) k t hs h;have h3:=j hd h2.1 u n w m;have B:=Ik j k n w m e q g f h2.2;simp_all
    grind
  grind
theorem Il(d:DW P J Z x)(f:be J X E.toList)(n:Nat)(w:World)(h:x<=n)(hd:iA P x false A=some e)(hs:eW P A=some W)(j:mO P A=some isMax):∀(is:List Nat)(g:Nat),pZ.go g X (is.map λi=>(i*W,W,isMax,e))=true->(forIn is PUnit.unit λ(i:Nat)r=>(do(Instr.checkKey Z n A (<-part A E (i*(<-sizeOf A))));pure (ForInStep.yield PUnit.unit):Sem (ForInStep PUnit))).run P w=.ok PUnit.unit w
 |[],g,h2=>by rfl
 |i::is,g,h2=>by
  cases g with
  |zero=>trivial
  |succ g=>
   simp only[ahk,pZ.go]at h2;split at h2;·rename_i q c;simp only[ahl]at h2;have⟨l,m,k⟩:=uo (P:=P) (w:=w) f j hs c;have h3:=d hd h2.1 k n w h;have p:=Il d f n w h hd hs j is g h2.2;simp_all[List.forIn_cons,Sem.run_bind,iM,Result.andThen_ok,Sem.run_pure]
   grind
theorem P1(ρ:aP)(em:Bool)(f:Nat):DW B ρ em f:=by
 induction f with
 |zero=>intro const t d h;simp[iA]at h
 |succ f m=>
  intro const t d h g x he u p n F y;cases n with
  |zero=>omega
  |succ n=>
   have i:f<=n:=aa;unfold iA at h;split at h;all_goals(rename_i hu)
   .simp[Instr.checkKey,bS hu]
   .simp[Instr.checkKey,bS hu]
   .simp[Instr.checkKey,bS hu]
   .simp[Instr.checkKey,bS hu]
   .simp[Instr.checkKey,bS hu]
   .simp[Instr.checkKey,bS hu]
   .simp[Instr.checkKey,bS hu]
   .injection h with h;subst h;unfold pZ at he;cases x<;>cases he
   .split at h;·cases h
    rw[ae2]at h;obtain⟨l,hl,rfl⟩:=h;unfold pZ at he;split at he<;>(try(rename_i k;cases k;done))<;>(try(cases he;done));rename_i c;cases c;obtain⟨q,e,rfl⟩:=p.rE;have j:=Ik m e n F i _ _ _ hl he;simp only[Instr.checkKey,Sem.run_bind,bS hu,Result.andThen_ok,<-Array.forIn_toList];rw[j];rfl
   .split at h;·rename_i d s C hd hs r;injection h with h;subst h;unfold pZ at he;split at he<;>(try(rename_i k;cases k;done))<;>(try(cases he;done));rename_i c;cases c;obtain⟨q,e,rfl⟩:=p.rE;have j:=Il m e n F i hd hs r _ _ he;simp only[Instr.checkKey,Sem.run_bind,bS hu,Result.andThen_ok];simp only[Std.Legacy.Range.forIn_eq_forIn_range',Std.Legacy.Range.size,aiW,Nat.add_one_sub_one,Nat.div_one];rw[List.range_eq_range']at j;rw[j];rfl
    cases h
   cases h
theorem DX(h:ru B A=some e):∃kd,B.underlying A=some kd/\iA B 16 false A=some e/\((kd=.bool/\e=.bool)\/(∃k,kd=.int k/\e=.int)\/(kd=.string/\e=.str)\/∃l,e=.dX l):=by
 unfold ru at h;split at h;all_goals(try(cases h;done))
 all_goals(rename_i hu;refine⟨_,hu,h,?_⟩)
 all_goals unfold iA at h;simp only[hu]at h
 .grind
 .grind
 .grind
 all_goals grind[Option.map_eq_some_iff]
theorem DY(hu:B.underlying A=some y)(c:y=.bool\/(∃k,y=.int k)\/y=.string)(em:Bool)(n:Nat)(x:Value)(w:World):(Instr.checkKey em (n+1) A x).run B w=.ok () w:=by rcases c with rfl|⟨k,rfl⟩|rfl<;>simp[Instr.checkKey,bS hu]
theorem DZ(h:ru P A=some e)(c:iH e L=true)(d:VR J L I)(em:Bool)(w:World):(Instr.checkKey em 10000 A I).run P w=.ok () w:=by
 have⟨kd,hu,he,hd⟩:=DX h;rcases hd with⟨rfl,rfl⟩|⟨f,rfl,rfl⟩|⟨rfl,rfl⟩|⟨l,rfl⟩;·exact DY hu (.inl rfl) em 9999 I w
 .exact DY hu (.inr (.inl ⟨_,rfl⟩)) em 9999 I w
 .exact DY hu (.inr (.inr rfl)) em 9999 I w
 exact P1 J em 16 he c d 10000 w aC
def FR(J:aP)(n:Nat):Option (Nat×AV)->Option (Nat×Value)->Prop
 |none,none=>True
 |some (i,v),some (j,c)=>i=j/\VR J v c/\i<n
 |_,_=>False
theorem Im(h:iA B 16 false A=some e)(f:VR J L I)(w:World):∀(es:List aV)(bB:List MapEntry)(i:Nat)(r:Option (Nat×AV)),ct J es bB->findKey e L es i=some r->∃d,(Instr.findAsking A I bB i).run B w=.ok d w/\FR J (i+es.length) r d
 |[],[],i,r,_,h2=>by simp only[findKey,aa9]at h2;subst h2;exact⟨none,by rfl,trivial⟩
 |k::es,c::bB,i,r,h1,h2=>by
  simp only[findKey]at h2;split at h2;·rename_i he;injection h2 with h2;subst h2;have:=Bf J 16 h he f h1.1 10000 w aa;refine⟨some (i,c.val),?_,rfl,h1.2.1,aC⟩;simp[this,Instr.findAsking,Op.equal,Op.maxDepth,Sem.run_bind,Result.andThen_ok,bg,Sem.run_pure]
  .rename_i he;have:=Bf J 16 h he f h1.1 10000 w aa;have⟨d,g,j⟩:=Im h f w es bB (i+1) r h1.2.2.2 h2;refine⟨d,?_,by grind⟩;simp[this,g,Instr.findAsking,Op.equal,Op.maxDepth,Sem.run_bind,Result.andThen_ok,abH,bF]
  grind
 |[],_::_,_,_,h1,_=>by trivial
 |_::_,[],_,_,h1,_=>by trivial
theorem P3(hu:B.underlying A=some y)(h:Instr.sameNow y I m=some Z)(n:Nat)(w:World):(Op.equalIn (n+1) A I m).run B w=.ok Z w:=by
 unfold Instr.sameNow at h;split at h
 .split at h;·rename_i c;injection h with h;subst c;subst h;simp[Op.equalIn,bS hu]
  grind
 .injection h with h;subst h;simp[Op.equalIn,bS hu]
 .injection h with h;subst h;simp[Op.equalIn,bS hu]
 grind
theorem Io(hu:B.underlying A=some y)(h:iA B 16 false A=some e)(g:VR J L I)(w:World):∀(es:List aV)(bB:List MapEntry)(i:Nat)(r:Option (Nat×AV))(d:Option (Nat×Value)),ct J es bB->findKey e L es i=some r->Instr.findNow y I bB i=some d->FR J (i+es.length) r d
 |[],[],i,r,d,_,h2,h3=>by simp only[findKey,aa9]at h2;subst h2;simp only[Instr.findNow,aa9]at h3;subst h3;trivial
 |q::es,c::bB,i,r,d,h1,h2,h3=>by
  simp only[findKey]at h2;simp only[Instr.findNow]at h3;have Ip:∀p f,db 64 e L q.key=some p->Instr.sameNow y I c.key=some f->p=f:=by intro p f j k;have l:=Bf J 16 h j g h1.1 10000 w aa;have m:=P3 hu k 9999 w;have n:=l.symm.trans m;injection n
  split at h2
  .rename_i he;injection h2 with h2;subst h2;split at h3;·injection h3 with h3;subst h3;exact⟨rfl,h1.2.1,aC⟩
   all_goals grind
  .rename_i he;split at h3;·grind
   .have:=Io hu h g w es bB (i+1) r d h1.2.2.2 h2 h3;grind
   grind
  grind
 |[],_::_,_,_,_,h1,_,_=>by trivial
 |_::_,[],_,_,_,h1,_,_=>by trivial
theorem ur(h:ru P A=some e)(d:VR J L I)(w:World){es:List aV}{bB:List MapEntry}(he:ct J es bB){r:Option (Nat×AV)}(f:findKey e L es 0=some r):∃c,(Instr.findKey A I bB).run P w=.ok c w/\FR J es.length r c:=by have⟨kd,hu,g,_⟩:=DX h;cases i:Instr.findNow kd I bB 0 with|some c=>have:=Io hu g d w es bB 0 r c he f i;simp_all[ahw,Instr.findKey,bS]|none=>have⟨c,j,k⟩:=Im g d w es bB 0 r he f;simp_all[ahw,Instr.findKey,bS]
theorem Iq{s t:ByteArray}(h:iG (s.data.toList.map aiJ) (t.data.toList.map aiJ)=true):s=t:=by rw[sJ]at h;exact ByteArray.ext (Array.toList_inj.1 (DP (eq_of_beq h)))
theorem P4(h:CW L r=true)(c:VR J L I)(d:VR J r m):I=m:=by
 unfold CW at h;split at h;·rw[c.pj,d.pj,eq_of_beq h]
 .simp only[ahl]at h;obtain⟨e,h1,rfl⟩:=c.i6;obtain⟨f,h2,rfl⟩:=d.i6;have:=ahn h.1;have:=ul (h1.symm.trans (this.trans h2));have h3:=h.2;rw[dW]at h3;rw[this,eq_of_beq h3]
 .obtain⟨t1,h1,rfl⟩:=c.mQ;obtain⟨t2,h2,rfl⟩:=d.mQ;subst h1;subst h2;rw[Iq h]
 cases h
theorem Ir:∀{l m:List AV},wc l m=true->∀{x y:List Value},be J l x->be J m y->x=y|[],[],_,[],[],_,_=>rfl|C::l,e::m,h,c::x,d::y,h1,h2=>by simp only[wc,ahl]at h;rw[P4 h.1 h1.1 h2.1,Ir h.2 h1.2 h2.2]|[],_::_,h,_,_,_,_=>by simp[wc]at h|_::_,[],h,_,_,_,_=>by simp[wc]at h|[],[],_,_::_,_,h,_=>by simp[be]at h|[],[],_,[],_::_,_,h=>by simp[be]at h|_::_,_::_,_,[],_,h,_=>by simp[be]at h|_::_,_::_,_,_::_,[],_,h=>by simp[be]at h
theorem Is(h:ru B A=some e)(m:VR J L I):∀{es:List aV}{bB:List MapEntry}(i0 i:Nat)(v:AV),ct J es bB->findKey e L es i0=some (some (i0+i,v))->wd e L es i=true->∃c,bB[i]?=some c/\c.key=I
 |[],[],i0,i,v,_,g,_=>by trivial
 |O::es,c::bB,i0,i,v,h1,g,hs=>by
  simp only[findKey]at g;cases i with
  |zero=>
   refine⟨c,rfl,?_⟩;split at g
   .rename_i he;have⟨kd,hu,k,hd⟩:=DX h;rcases hd with⟨rfl,rfl⟩|⟨F,rfl,rfl⟩|⟨rfl,rfl⟩|⟨l,rfl⟩;·unfold db at he;split at he<;>(try(rename_i k _;cases k;done))<;>(try(cases he;done));rename_i f;have d:=h1.1;rw[f]at d;injection he with he;rw[d.pj,m.pj,eq_of_beq he]
    .unfold db at he;split at he<;>(try(rename_i k _;cases k;done))<;>(try(cases he;done));rename_i f;have d:=h1.1;rw[f]at d;split at he;·rename_i q;injection he with he;rw[dW]at he;obtain⟨G,n,rfl⟩:=m.i6;have⟨K,p,r⟩:=d.i6;have:=ul (n.symm.trans (q.trans p));rw[r,this,eq_of_beq he]
     cases he
    .unfold db at he;split at he<;>(try(rename_i k _;cases k;done))<;>(try(cases he;done));rename_i f;have d:=h1.1;rw[f]at d;injection he with he;obtain⟨t1,n,rfl⟩:=m.mQ;have⟨t2,p,r⟩:=d.mQ;subst n;subst p;rw[r,Iq he]
    simp only[wd]at hs;split at hs;·rename_i M N q s;have d:=h1.1;rw[s]at d;have⟨x,t,n⟩:=m.rE;have⟨y,u,p⟩:=d.rE;have:=Ir hs t u;rw[n,p,Array.toList_inj.1 this]
    .cases hs
    rename_i h2 _;exact(h2 _ rfl).elim
   .exfalso;have:∀(es:List aV)(j i:Nat)(v:AV),findKey e L es j=some (some (i,v))->j<=i:=by
     intro es;induction es with
     |nil=>intro j i v h;simp[findKey]at h
     |cons O es z=>
      intro j i v h;simp only[findKey]at h;split at h;·simp only[aa9,afm]at h;omega
      .have:=z _ _ _ h;omega
      cases h
    have:=this _ _ _ _ g;omega
   cases g
  |succ i=>
   split at g;·simp only[aa9,afm]at g;omega
   .obtain⟨C,D,E⟩:=Is h m (i0+1) i v h1.2.2.2 (by rw[g];simp;omega) hs;exact⟨C,by simpa using D,E⟩
   cases g
 |[],_::_,_,_,_,h1,_,_=>by trivial
 |_::_,[],_,_,_,h1,_,_=>by trivial
end
def _root_.Go.Value.pq:Value->Bool
 |.int .. |.float .. |.complex .. |.string .. =>false
 |_=>true
def AV.pq:AV->Bool
 |.int .. |.str .. |.bQ=>false
 |_=>true
theorem VR.pq(h:VR J L I)(k:L.pq=true):I.pq=true:=by cases L<;>cases I<;>first|(simp[VR]at h;done)|rfl|(simp[AV.pq]at k;done)
theorem P5(c:I.pq=true)(t:TypeId):binOp .eql t I m=(do pure (.bool (<-Op.equal t I m))):=by cases I<;>first|(simp[Value.pq]at c;done)|(cases m<;>rfl)
theorem P6(c:I.pq=true)(t:TypeId):binOp .neq t I m=(do pure (.bool (!(<-Op.equal t I m)))):=by cases I<;>first|(simp[Value.pq]at c;done)|(cases m<;>rfl)
theorem P7(h:db x e L r=some Z)(h1:e≠.int)(h2:e≠.str):L.pq=true:=by unfold db at h;split at h<;>first|rfl|(exact absurd rfl h1)|(exact absurd rfl h2)|(cases h;done)
theorem D0(h:db x e L r=some Z):L.bk=true/\r.bk=true:=by unfold db at h;split at h<;>first|exact⟨rfl,rfl⟩|(cases h;done)
theorem It(h:iA B x Z A=some e):(e=.int->∃k,B.underlying A=some (.int k))/\(e=.str->B.underlying A=some .string)/\(∀c j,e=.iface c j->c=Z/\∃d,B.underlying A=some (.interface d)/\j=d.isEmpty):=by
 cases x with
 |zero=>simp[iA]at h
 |succ x=>
  unfold iA at h;split at h;all_goals(try(cases h;done))
  all_goals(rename_i hu)
  all_goals(try(injection h with h;subst h))
  all_goals(try(refine⟨λj=>?_,λj=>?_,λc i j=>?_⟩))
  all_goals(try(first|(cases j;done)|exact⟨_,hu⟩|exact hu))
  .split at h;·injection h with h;subst h;cases j
   cases h
  .split at h;·injection h with h;subst h;cases j
   cases h
  .split at h;·injection h with h;subst h;cases j
   cases h
  .injection j with f g;exact⟨f.symm,_,hu,g.symm⟩
  .split at h;·cases h
   rw[ae2]at h;obtain⟨_,_,h⟩:=h;subst h;cases j
  .split at h;·cases h
   rw[ae2]at h;obtain⟨_,_,h⟩:=h;subst h;cases j
  .split at h;·cases h
   rw[ae2]at h;obtain⟨_,_,h⟩:=h;subst h;cases j
  .split at h;·injection h with h;subst h;cases j
   cases h
  .split at h;·injection h with h;subst h;cases j
   cases h
  split at h;·injection h with h;subst h;cases j
  cases h
theorem P8{c:Array (String×TypeId)}(h:B.underlying A=some (.interface c))(n:Nat)(w:World):(Op.eqGuardIn (n+1) A .nilIface .nilIface).run B w=.ok (!c.isEmpty) w:=by simp[h,Op.eqGuardIn,Sem.run_bind,bS,Result.andThen_ok,Sem.run_pure]
theorem P9(f:VR J L I)(g:VR J r m)(hd:iA P W (pe S||pe Y) A=some e)(hg:wx P e A=true)(he:db x e L r=some Z)(w:World):(eqGuard op A S Y I m).run P w=.ok () w:=by
 have h0:op=.eql\/op=.neq\/(eqGuard op A S Y I m).run P w=.ok () w:=by cases op<;>first|exact .inl rfl|exact .inr (.inl rfl)|exact .inr (.inr (by simp[eqGuard]))
 have h1:op=.eql\/op=.neq->(eqGuard op A S Y I m)=eqGuard .eql A S Y I m:=by rintro(rfl|rfl)<;>rfl
 have key:(eqGuard .eql A S Y I m).run P w=.ok () w:=by
  unfold eqGuard;simp only[ahN,abH,bF,pure_bind];split
  .have h1:L=.nilIface:=by have c:=(D0 he).1;cases L<;>first|rfl|(simp[AV.bk]at c;done)|(simp[VR]at f)
   have h2:r=.nilIface:=by have c:=(D0 he).2;cases r<;>first|rfl|(simp[AV.bk]at c;done)|(simp[VR]at g)
   subst h1;subst h2;unfold db at he;split at he<;>(try(rename_i c;cases c;done))<;>(try(rename_i c _;cases c;done))<;>(try(cases he;done));split at he
   .rename_i d;have⟨j,k,n,p⟩:=(It hd).2.2 _ _ rfl;subst j;have h:k.isEmpty=true->(Op.eqGuardIn Op.maxDepth A .nilIface .nilIface).run P w=.ok false w:=λi=>by have:=P8 n 9999 w;rw[i]at this;exact this
    rw[p]at d;clear h0 h1 hd hg he f g;cases S<;>cases Y<;>simp[pe]at d⊢<;>simp[h (by simpa using d)]
   cases he
  .obtain⟨q,h1⟩:∃l,L=.agg l:=by have c:=(D0 he).1;cases L<;>first|exact⟨_,rfl⟩|(simp[AV.bk]at c;done)|(simp[VR]at f)
   subst h1;have:P.eqGuardType P.depth A=false:=by cases e with|dX l=>simpa[wx]using hg|_=>exfalso;clear h0 h1 hd hg f g;cases x<;>simp[db]at he
   simp[this]
  simp
 grind
theorem Qa(h:dl P N J O F x M C)(y:D.op=.binOp op A S Y f){s t:aJ}(d:op=if Z then .neq else .eql)(hd:iA P 16 (pe S||pe Y) A=some e)(hg:wx P e A=true)(h1:fj P x S=some s)(h2:fj P x Y=some t)(m:∀k,P.underlying A≠some (.int k))(n:P.underlying A≠some .string)(he:aH (.eq Z e s t) M O=some (L,V)):bC P N J F (execOp C.eval D) L V:=by
 have j:=h.gv h1;have u:=h.gv h2;simp only[aH,ae2,afm]at he;obtain⟨q,⟨r,l,rfl⟩,rfl,rfl⟩:=he;have i:=It hd;have c:=VR.pq j (P7 l (λz=>by obtain⟨k,i⟩:=i.1 z;exact m k i) (λz=>n (i.2.1 z)));have g:=Bf J 16 hd l j u 10000 F aa;have p:=P9 (op:=op) (P:=P) j u hd hg l F;refine bC.val (c:=.bool (r !=Z)) (w':=F) ?_ (cM.bI h.I (by rfl));simp only[execOp,y,Sem.run_bind,p,Result.andThen_ok];cases Z;·simp[d,c,g,abH,bF,P5,Op.equal,Op.maxDepth,Sem.run_bind,Result.andThen_ok,Sem.run_pure,Bool.bne_false]
 simp[d,c,g,bg,P6,Op.equal,Op.maxDepth,Sem.run_bind,Result.andThen_ok,Sem.run_pure,Bool.bne_true]
theorem ct.kA(d:VR J L I)(f:VR J r m):∀{es:List aV}{bB:List MapEntry}(i:Nat),ct J es bB->ct J (kA r L es i) (bB.modify i λe=>{e with key:=I,val:=m})|[],[],i,_=>by simp[Go.al.kA,ct]|e::es,c::bB,0,h=>by simp_all[ct,Go.al.kA,List.modify_zero_cons]|e::es,c::bB,i+1,h=>by exact⟨h.1,h.2.1,h.2.2.1,ct.kA d f i h.2.2.2⟩|[],_::_,_,h=>by trivial|_::_,[],_,h=>by trivial
theorem ct.push(n:Nat)(d:VR J L I)(f:VR J r m):∀{es:List aV}{bB:List MapEntry},ct J es bB->ct J (es++[⟨L,r,n⟩]) (bB++[{key:=I,val:=m,born:=n}])|[],[],_=>by trivial|e::es,c::bB,h=>by exact⟨h.1,h.2.1,h.2.2.1,ct.push n d f h.2.2.2⟩|[],_::_,h=>by trivial|_::_,[],h=>by trivial
theorem ct.erase:∀{es:List aV}{bB:List MapEntry}(i:Nat),ct J es bB->ct J (mL es i) (bB.eraseIdx i)|[],[],i,_=>by trivial|e::es,c::bB,0,h=>by simp_all[ct,mL,List.eraseIdx_cons_zero]|e::es,c::bB,i+1,h=>by exact⟨h.1,h.2.1,h.2.2.1,ct.erase i h.2.2.2⟩|[],_::_,_,h=>by trivial|_::_,[],_,h=>by trivial
theorem ct.pY(s:Nat):∀{es:List aV}{bB:List MapEntry}(i0 i:Nat),ct J es bB->pY s es i0=some i->i0<=i/\bB.findIdx? (λe=>(e.born:Int)==(s:Int))=some (i - i0)/\∃e c,es[i - i0]?=some e/\bB.find? (λe=>e.born==s)=some c/\VR J e.key c.key/\VR J e.val c.val
 |[],_,_,_,_,h=>by trivial
 |e::es,c::bB,i0,i,h,d=>by
  simp only[Go.al.pY]at d;split at d
  .rename_i hb;have hb:=ahn hb;injection d with d;subst d;have f:c.born=s:=by rw[<-h.2.2.1];exact hb
   refine⟨aeE _,by grind,e,c,aC,by grind,h.1,h.2.1⟩
  rename_i hb;have hb:¬e.born=s:=λq=>hb (by rw[q];exact ait _);have f:¬c.born=s:=by rw[<-h.2.2.1];exact hb
  have g:¬(c.born:Int)=(s:Int):=aa;have⟨j,k,l,m,n,p,r⟩:=ct.pY s (i0+1) i h.2.2.2 d;grind
 |_::_,[],_,_,h,_=>by trivial
theorem wH(w:World){d:Obj}(h:w.heap[x]?=some d)(g:∀c e f,d≠.cells c e f)(o:Obj):(setObj x o).run P w=.ok () {w with heap:=w.heap.setIfInBounds x o}:=by cases d with|cells c e f=>grind|_=>simp[h,setObj,Sem.run]
theorem map_set(i:bm P N J O F)(f:O.get d=.map h W)(hb:J d=some (x,0))(he:ct J es' ces'.toList)(c:Nat)(eB:kB ces' c)(j:w1.heap=F.heap)(k:w1.os=F.os)(l:w1.tape=F.tape)(m:w1.output=F.output):∃w',(setObj x (.map ces' c)).run P w1=.ok () w'/\bm P N J (O.set d (.map es' c)) w'/\dk N F w':=by
 have g:O.get d≠.none:=by rw[f];simp
 have⟨bB,e,_⟩:=sK i f hb;refine⟨_,wH w1 (by rw[j];exact e) (λ_ _ _=>by simp) _,?_⟩;have:=i.pi (i:=d) (o':=.map es' c) (ob':=.map ces' c) g (by rw[f];rfl) hb rfl (by simp only[OR];exact⟨trivial,trivial,eB,he⟩) (by simp[eQ]) (w':={w1 with heap:=w1.heap.setIfInBounds x (.map ces' c)}) (by simp only[j]) k l m;rw[f]at this;exact this
theorem Qb(k:Value)(w:World):∃c,(Instr.keyThatStays k k).run P w=.ok k c/\c.heap=w.heap/\c.os=w.os/\c.tape=w.tape/\c.output=w.output:=by
 unfold Instr.keyThatStays;split;·simp
 cases d:(Question.extern "map.whichKeyStays" 2).forced;·exact⟨w.drew,by simp_all,rfl,rfl,rfl,rfl⟩
 simp_all
section
variable{P:Program}{b:cq}{ρ:aP}{H H':ai}{w:World}{nt:Nat}{af:az AV}{a:Act}{v:AV}
theorem bm.congr(h:bm P b ρ H w)(c:O.next=H.next)(hg:∀j,O.get j=H.get j):bm P b ρ O w:=⟨λi hi=>by rw[hg]at hi⊢;exact h.dq i hi,λi j g x y d hi hj=>by rw[hg]at hi hj;rw[hg,hg];exact h.jC i j g x y d hi hj,λi j hi=>by rw[hg]at hi⊢;rw[c];exact h.aK i j hi,λi g x hi e=>by rw[hg]at hi e;exact h.wr i g x hi e,λi hi=>by rw[c]at hi;rw[hg];exact h.du i hi,h.new,h.kR,λi g x f hi=>by rw[hg]at hi⊢;exact h.iK i g x f hi,h.ef,λi g x hi=>by rw[hg]at hi;exact h.rd i g x hi,λi hi=>by rw[hg,c];exact⟨(h.un i hi).1,(h.un i hi).2.1,λj=>by rw[hg];exact(h.un i hi).2.2 j⟩,h.dJ⟩
theorem D1{c:Obj}(h:F.heap[x]?=some c):F.heap.setIfInBounds x c=F.heap:=by grind
theorem bm.Iu(h:bm P b ρ H w){f:bR}(hi:H.get d≠.none)(k:(H.get d).jO=false)(l:(H.get d).aK=[])(g:f.aK=[])(m:∀x c,OR P ρ (H.get d) x c->OR P ρ f x c/\∀q,eQ P q f c):bm P b ρ (H.set d f) w:=by have⟨n,x,c,e,hl,hb,j⟩:=h.aE hi;have⟨h1,h2⟩:=m x c j;have:=(h.pi (w':=w) hi k e g h1 (h2 _) (by rw[D1 hb]) rfl rfl rfl).1;rw[l]at this;exact this
def aV.kv(e:aV):AV×AV:=(e.key,e.val)
theorem cZ.bO{l m:List MapEntry}(j:l.Perm m):cZ ρ h l->∃c,c.Perm h/\cZ ρ c m:=by
 induction j generalizing h with
 |nil=>intro s;exact⟨h,ai3 _,s⟩
 |cons x _ k=>intro s;cases h with|nil=>simp[cZ]at s|cons e h=>simp only[cZ]at s;have⟨c,p,q⟩:=k s.2.2;exact⟨e::c,p.cons e,by simp only[cZ];exact⟨s.1,s.2.1,q⟩⟩
 |swap x y r=>intro s;match h,s with|[],s=>simp[cZ]at s|[_],s=>simp[cZ]at s|i::d::h,s=>simp only[cZ]at s;exact⟨d::i::h,ah5 ..,by simp only[cZ];exact⟨s.2.2.1,s.2.2.2.1,s.1,s.2.1,s.2.2.2.2⟩⟩
 |trans _ _ f g=>intro s;have⟨i,p1,n⟩:=f s;have⟨d,p2,o⟩:=g n;exact⟨d,p2.trans p1,o⟩
theorem cZ.Bg(g:h.Perm t):∀{l:List MapEntry},cZ ρ h l->∃d,d.Perm l/\cZ ρ t d:=by
 induction g with
 |nil=>intro l o;exact⟨l,ai3 _,o⟩
 |cons x _ i=>intro l o;cases l with|nil=>simp[cZ]at o|cons c l=>simp only[cZ]at o;have⟨d,p,q⟩:=i o.2.2;exact⟨c::d,p.cons c,by simp only[cZ];exact⟨o.1,o.2.1,q⟩⟩
 |swap x y r=>intro l o;match l,o with|[],o=>simp[cZ]at o|[_],o=>simp[cZ]at o|c1::c2::l,o=>simp only[cZ]at o;exact⟨c2::c1::l,ah5 ..,by simp only[cZ];exact⟨o.2.2.1,o.2.2.2.1,o.1,o.2.1,o.2.2.2.2⟩⟩
 |trans _ _ e f=>intro l o;have⟨n,p1,j⟩:=e o;have⟨k,p2,m⟩:=f j;exact⟨k,p2.trans p1,m⟩
theorem cZ.kv:∀{es d:List aV}{m:List MapEntry},es.map aV.kv=d.map aV.kv->cZ ρ es m->cZ ρ d m
 |[],[],m,_,h=>h
 |e::es,g::d,m,f,h=>by simp only[ahk,ahD,aV.kv,afm]at f;cases m with|nil=>trivial|cons c m=>simp only[cZ]at h⊢;rw[<-f.1.1,<-f.1.2];exact⟨h.1,h.2.1,cZ.kv f.2 h.2.2⟩
 |[],_::_,_,f,_=>by grind
 |_::_,[],_,f,_=>by grind
def wI:List aV->List MapEntry->List aV
 |e::es,c::m=>{e with born:=c.born}::wI es m
 |_,_=>[]
theorem cZ.exact:∀{es:List aV}{m:List MapEntry},cZ ρ es m->ct ρ (wI es m) m/\(wI es m).map aV.kv=es.map aV.kv|[],[],_=>by trivial|e::es,c::m,h=>by have⟨h1,h2⟩:=cZ.exact h.2.2;simp only[wI,ct,ahk,h2];exact⟨⟨h.1,h.2.1,aC,h1⟩,by rfl⟩|[],_::_,h=>by trivial|_::_,[],h=>by trivial
theorem ct.open:∀{es:List aV}{m:List MapEntry},ct ρ es m->cZ ρ es m|[],[],_=>by trivial|e::es,c::m,h=>by exact⟨h.1,h.2.1,ct.open h.2.2.2⟩|[],_::_,h=>by trivial|_::_,[],h=>by trivial
theorem Iv(m:bm P b ρ H w)(i:H.get d=.cK h):∃(f j:List aV)(c:Nat),f.Perm h/\j.map aV.kv=f.map aV.kv/\bm P b ρ (H.set d (.map j c)) w:=by obtain⟨n,x,k,e,hl,hb,g⟩:=m.aE (i:=d) (by rw[i];simp);rw[i]at g;cases k<;>simp only[OR]at g;rename_i bB c;obtain⟨rfl,eB,l,h1,h2⟩:=g;have⟨f,p1,p2⟩:=cZ.bO h1 h2;have⟨p3,p4⟩:=cZ.exact p2;refine⟨f,wI f bB.toList,c,p1,p4,?_⟩;have:=(m.pi (i:=d) (o':=.map (wI f bB.toList) c) (ob':=.map bB c) (w':=w) (by rw[i];simp) (by rw[i];rfl) e rfl (by simp only[OR];exact⟨trivial,trivial,eB,p3⟩) (by simp[eQ]) (by rw[D1 hb]) rfl rfl rfl).1;rw[i]at this;exact this
theorem D3(j:bm P b ρ H w)(e:H.get d=.map h x)(f:es'.Perm t)(g:h.map aV.kv=es'.map aV.kv):bm P b ρ (H.set d (.cK t)) w:=by refine j.Iu (by rw[e];simp) (by rw[e];rfl) (by rw[e];rfl) rfl ?_;intro k i c;rw[e]at c;cases i<;>simp only[OR]at c⊢;obtain⟨rfl,rfl,eB,h3⟩:=c;have⟨l,p1,p2⟩:=cZ.Bg f (cZ.kv g (ct.open h3));exact⟨⟨by trivial,eB,l,p1,p2⟩,λq=>by simp[eQ]⟩
theorem Iw:∀{es c:List aV},es.map aV.kv=c.map aV.kv->eN.go e L es=eN.go e L c|[],[],_=>rfl|f::es,d::c,h=>by simp only[ahk,ahD,aV.kv,afm]at h;simp only[eN.go,Iw h.2,h.1.1,h.1.2]|[],_::_,h=>by grind|_::_,[],h=>by grind
theorem Qc(i:h.Perm t):eN.go e L h=eN.go e L t:=by
 induction i with
 |nil=>rfl
 |cons x _ f=>simp only[eN.go,f]
 |swap x y r=>
  simp only[eN.go];cases h1:db 64 e L x.key with
  |none=>cases h2:db 64 e L y.key with|none=>simp|some g=>cases g<;>simp
  |some q=>cases h2:db 64 e L y.key with|none=>cases q<;>simp|some g=>cases h3:eN.go e L r with|none=>cases q<;>cases g<;>simp|some r=>cases r<;>cases q<;>cases g<;>simp
 |trans _ _ c d=>exact c.trans d
theorem Ix{v:AV}:∀{es c:List aV},es.map aV.kv=c.map aV.kv->(j8 e L v es).map aV.kv=(j8 e L v c).map aV.kv
 |[],[],_=>rfl
 |f::es,d::c,h=>by
  simp only[ahk,ahD,aV.kv,afm]at h;have:kN e L f=kN e L d:=by simp only[kN,h.1.1]
  simp only[j8,ahk,Ix h.2,this,ahD,and_true];grind[aV.kv]
 |[],_::_,h=>by grind
 |_::_,[],h=>by grind
theorem Bh:∀{es c:List aV},es.map aV.kv=c.map aV.kv->(kO e L es).map aV.kv=(kO e L c).map aV.kv
 |[],[],_=>rfl
 |f::es,d::c,h=>by
  simp only[ahk,ahD,aV.kv,afm]at h;have:kN e L f=kN e L d:=by simp only[kN,h.1.1]
  simp only[kO,this];split;·exact Bh h.2
  simp only[ahk,Bh h.2,ahD,and_true];simp[h,aV.kv]
 |[],_::_,h=>by grind
 |_::_,[],h=>by grind
theorem Qd(d:dB)(k v:AV)(es:List aV):j8 d k v es=es.map λe=>if kN d k e then{e with key:=k,val:=v}else e:=by induction es with|nil=>rfl|cons e es c=>simp[c,j8,ahk]
theorem Qe(d:dB)(k:AV)(es:List aV):kO d k es=es.filter λe=>!kN d k e:=by induction es with|nil=>rfl|cons e es c=>simp only[kO,List.filter_cons,c];cases kN d k e<;>simp
theorem Qf(d:dB)(k v:AV)(c:h.Perm t):(j8 d k v h).Perm (j8 d k v t):=by grind[Qd]
theorem Iy(d:dB)(k:AV)(c:h.Perm t):(kO d k h).Perm (kO d k t):=by grind[Qe]
theorem wJ{v:AV}:∀{es:List aV},eN.go e L es=some none->j8 e L v es=es/\kO e L es=es/\∀i,findKey e L es i=some none
 |[],_=>⟨rfl,rfl,λ_=>rfl⟩
 |g::es,h=>by
  simp only[eN.go]at h;split at h;·grind
  .rename_i r h1 h2;injection h with h;subst h;have⟨c,d,f⟩:=wJ (v:=v) h2;simp[h1,c,d,f,kN,j8,kO,findKey]
  grind
theorem Bi{v:AV}:∀{es:List aV},eN.go e L es=some (some r)->∀i0,∃i,findKey e L es i0=some (some (i0+i,r))/\i<es.length/\kA v L es i=j8 e L v es/\mL es i=kO e L es
 |[],h,_=>by simp_all[eN.go]
 |j::es,h,i0=>by
  simp only[eN.go]at h;split at h;·rename_i h1 h2;injection h with h;injection h with h;subst h;have⟨c,d,_⟩:=wJ (v:=v) h2;simp[h1,c,d,kN,findKey,kA,j8,bg,mL,kO]
  .rename_i k h1 h2;injection h with h;subst h;have⟨i,c,d,f,g⟩:=Bi (v:=v) h2 (i0+1);have:kN e L j=false:=by simp[kN,h1]
   refine⟨i+1,by grind[findKey],by grind,?_,?_⟩;all_goals simp[this,f,g,kA,j8,mL,kO]
  grind
theorem D4(hd:rl e=true)(k:AV):∀(es:List aV)(i:Nat),i<es.length->wd e k es i=true
 |[],i,h=>by grind
 |c::es,0,_=>by cases e<;>first|rfl|(simp[rl]at hd)
 |c::es,i+1,h=>by exact D4 hd k es i (by grind)
def bJ.Iz:bJ->Option aJ
 |.lookup _ _ _ m _|.jK _ m _ _|.delete _ m _=>some m
 |_=>none
def ut(af:az AV)(H:ai)(ao:bJ):Prop:=∀c id es,ao.Iz=some c->gv af c=.map id->H.get id≠.cK es
theorem D5(p:∀{M H1:ai}{v:AV},bm P b ρ M w->ut af M Q->aH Q af M=some (v,H1)->bC P b ρ w l v H1)(S:bm P b ρ H w)(he:aH Q af H=some (v,H')):bC P b ρ w l v H':=by
 by_cases N:ut af H Q;·exact p S N he
 simp only[ut,Classical.not_forall,not_imp,ne_eq,aix]at N;have⟨O,id,es,B,C,J⟩:=N;have⟨E,g,f,G,I,t⟩:=Iv S J;have u:ut af (H.set id (.map g f)) Q:=by intro ag av F h1 h2;rw[B]at h1;injection h1 with h1;subst h1;rw[C]at h2;injection h2 with h2;subst h2;rw[ai.aG,aF rfl];simp
 have hg:(H.set id (.map g f)).get id=.map g f:=by rw[ai.aG,aF rfl]
 have n:∀{v:AV}{esy es1 F:List aV}{c:Nat}{H1 K:ai},bC P b ρ w l v H1->H1.get id=.map esy c->(∀j,j≠id->H1.get j=H.get j)->H1.next=H.next->es1.Perm F->esy.map aV.kv=es1.map aV.kv->K.get id=.cK F->(∀j,j≠id->K.get j=H.get j)->K.next=H.next->bC P b ρ w l v K:=by
  intro v esy es1 F c H1 K T V W X Y Z g6 g7 g8;have⟨q,w',hr,R,x1,x2,x3,x4⟩:=T;refine⟨q,w',hr,R,x1,x2,(D3 x3 V Y Z).congr (by rw[g8];exact X.symm) ?_,x4⟩;intro j;rw[ai.aG];by_cases e:j=id;·subst e;rw[aF rfl,g6]
  rw[an e,W j e,g7 j e]
 have s:∀d k,eN d k es=eN d k g:=by
  intro d k;unfold eN;split;·rw[<-Qc G,<-Iw I]
  rfl
 have m:∀{d:dB}{k:AV}{r:Option AV},eN d k g=some r->rl d=true/\eN.go d k g=some r:=by
  intro d k r h;unfold eN at h;split at h;·exact⟨by assumption,h⟩
  cases h
 cases Q<;>simp only[bJ.Iz,aa9,reduceCtorEq]at B;all_goals subst B
 case lookup d z ok O k=>
  simp only[aH]at he;split at he;·cases he
  rename_i o;simp only[C,J,s]at he;split at he;·rename_i x D;have⟨h1,h2⟩:=m D;have⟨i,A,_⟩:=Bi (v:=x) h2 0;obtain⟨rfl,rfl⟩:=he;refine n (p t u (v:=if ok=true then .tuple [x,.bool true]else x) (H1:=H.set id (.map g f)) ?_) hg (λj hj=>by rw[ai.aG,an hj]) rfl G I J (λ_ _=>rfl) rfl;simp only[aH,C,hg,A,o,abH,bF]
  .rename_i D;have⟨h1,h2⟩:=m D;have⟨_,_,A⟩:=wJ (v:=z) h2;obtain⟨rfl,rfl⟩:=he;refine n (p t u (v:=if ok=true then .tuple [z,.bool false]else z) (H1:=H.set id (.map g f)) ?_) hg (λj hj=>by rw[ai.aG,an hj]) rfl G I J (λ_ _=>rfl) rfl;simp only[aH,C,hg,A,o,abH,bF]
  cases he
 case jK d O k x=>
  simp only[aH]at he;split at he;·cases he
  rename_i o;simp only[C,J,s]at he;split at he;·rename_i y D;have⟨h1,h2⟩:=m D;have⟨i,A,L,f3,_⟩:=Bi (v:=gv af x) h2 0;obtain⟨rfl,rfl⟩:=he;refine n (esy:=kA (gv af x) (gv af k) g i) (es1:=j8 d (gv af k) (gv af x) E) (c:=f) (p t u (v:=.ai8) (H1:=(H.set id (.map g f)).set id (.map (kA (gv af x) (gv af k) g i) f)) ?_) (by rw[ai.aG,aF rfl]) (λj hj=>by rw[ai.aG,an hj,ai.aG,an hj]) rfl (Qf d _ _ G) (by rw[f3];exact Ix I) (by rw[ai.aG,aF rfl]) (λj hj=>by rw[ai.aG,an hj]) rfl;simp only[aH,C,hg,A,o,abH,bF,ahw,D4 h1 _ _ _ L,bg]
  .rename_i D;have⟨h1,h2⟩:=m D;have⟨_,_,A⟩:=wJ (v:=gv af x) h2;obtain⟨rfl,rfl⟩:=he;refine n (esy:=g++[⟨gv af k,gv af x,f⟩]) (es1:=E++[⟨gv af k,gv af x,0⟩]) (c:=f+1) (p t u (v:=.ai8) (H1:=(H.set id (.map g f)).set id (.map (g++[⟨gv af k,gv af x,f⟩]) (f+1))) ?_) (by rw[ai.aG,aF rfl]) (λj hj=>by rw[ai.aG,an hj,ai.aG,an hj]) rfl (G.append_right _) (by simp[I,aV.kv]) (by rw[ai.aG,aF rfl]) (λj hj=>by rw[ai.aG,an hj]) rfl;simp only[aH,C,hg,A,o,abH,bF]
  cases he
 case delete d O k=>
  simp only[aH]at he;split at he;·cases he
  rename_i o;simp only[C,J,s]at he;split at he;·rename_i r D;have⟨h1,h2⟩:=m D;obtain⟨rfl,rfl⟩:=he;cases r with|some y=>have⟨i,A,L,_,f4⟩:=Bi (v:=gv af k) h2 0;refine n (esy:=mL g i) (es1:=kO d (gv af k) E) (c:=f) (p t u (v:=.ai8) (H1:=(H.set id (.map g f)).set id (.map (mL g i) f)) ?_) (by rw[ai.aG,aF rfl]) (λj hj=>by rw[ai.aG,an hj,ai.aG,an hj]) rfl (Iy d _ G) (by rw[f4];exact Bh I) (by rw[ai.aG,aF rfl]) (λj hj=>by rw[ai.aG,an hj]) rfl;simp only[aH,C,hg,A,o,abH,bF,ahw]|none=>have⟨_,L,A⟩:=wJ (v:=gv af k) h2;refine n (esy:=g) (es1:=kO d (gv af k) E) (c:=f) (p t u (v:=.ai8) (H1:=(H.set id (.map g f)).set id (.map g f)) ?_) (by rw[ai.aG,aF rfl]) (λj hj=>by rw[ai.aG,an hj,ai.aG,an hj]) rfl (Iy d _ G) (by rw[<-Bh I,L]) (by rw[ai.aG,aF rfl]) (λj hj=>by rw[ai.aG,an hj]) rfl;simp only[aH,C,hg,A,o,abH,bF]
  cases he
end
theorem Qg(h:dl P N J O F x M C)(y:D.op=.lookup A S Y Z)(f:bK P x D=some Q)(hU:ut M O Q)(he:aH Q M O=some (L,V)):bC P N J F (execOp C.eval D) L V:=by
 simp only[bK,y,aeX,abF]at f;obtain⟨d,hd,f⟩:=f;split at f
 .rename_i kt e;simp only[abF,ahe,aa9]at f;obtain⟨kd,k,z,hz,om,h1,X,h2,rfl⟩:=f;obtain⟨zv,t,u,av⟩:=sI hz;have B:=h.gv h1;have E:=h.gv h2;simp only[aH]at he;split at he;·cases he
  rename_i m;have m:iH kd (gv M X)=true:=by simpa using m
  have n:=λem F=>DZ k m E em (P:=P) F;have g:∀{c:Value},VR J z c->VR J (if Z=true then .tuple [z,.bool false]else z) (if Z=true then .tuple #[c,.bool false]else c):=by
   intro c f;cases Z;·exact f
   simp[VR,be,f]
  have q:∀{aw:AV}{c:Value},VR J aw c->VR J (if Z=true then .tuple [aw,.bool true]else aw) (if Z=true then .tuple #[c,.bool true]else c):=by
   intro aw c f;cases Z;·exact f
   simp[VR,be,f]
  split at he
  .rename_i G;simp only[aa9,afm]at he;obtain⟨rfl,rfl⟩:=he;rw[G]at B;have K:=B.sH;have⟨l,r,s⟩:=ur (P:=P) k E F (es:=[]) (bB:=[]) (by simp[ct]) (r:=none) rfl;have R:l=none:=by cases l<;>simp_all[FR]
   subst R;refine bC.val (c:=if Z=true then .tuple #[zv,.bool false]else zv) (w':=F) ?_ (cM.bI h.I (g (u J)));simp only[execOp,y,Instr.lookup,Sem.run_bind,bS hd,Result.andThen_ok,K,Sem.run_pure,n,r,t]
  .rename_i id G;rw[G]at B;have⟨ax,hb,K⟩:=B.po;split at he
   .rename_i es ag T;have⟨bB,k1,k2⟩:=sK h.I T hb;split at he
    .rename_i i aw W;simp only[aa9,afm]at he;obtain⟨rfl,rfl⟩:=he;have⟨l,r,s⟩:=ur (P:=P) k E F k2 W;obtain⟨⟨j,c⟩,rfl⟩:∃p,l=some p:=by cases l with|none=>simp[FR]at s|some p=>exact⟨p,rfl⟩
     simp only[FR]at s;refine bC.val (c:=if Z=true then .tuple #[c,.bool true]else c) (w':=F) ?_ (cM.bI h.I (q s.2.1));simp only[execOp,y,Instr.lookup,Sem.run_bind,bS hd,Result.andThen_ok,K,Sem.run_pure,n,r,pp k1]
    .rename_i W;simp only[aa9,afm]at he;obtain⟨rfl,rfl⟩:=he;have⟨l,r,s⟩:=ur (P:=P) k E F k2 W;have R:l=none:=by cases l<;>simp_all[FR]
     subst R;refine bC.val (c:=if Z=true then .tuple #[zv,.bool false]else zv) (w':=F) ?_ (cM.bI h.I (g (u J)));simp only[execOp,y,Instr.lookup,Sem.run_bind,bS hd,Result.andThen_ok,K,Sem.run_pure,n,r,pp k1,t]
    cases he
   .rename_i es T;exact absurd T (hU _ _ _ rfl G)
   cases he
  cases he
 grind
theorem Qh(h:dl B N J O F x M C)(c:D.op=.lookup A S Y Z)(d:bK B x D=some Q)(he:aH Q M O=some (L,V)):bC B N J F (execOp C.eval D) L V:=D5 (λe f he=>Qg ⟨h.E,e⟩ c d f he) h.I he
theorem bC.skip(h:l.run B F=.ok .skip w')(c:cM B N J F L O undef w'):bC B N J F l L O:=⟨undef,w',.inr ⟨h,rfl⟩,c⟩
theorem IA{d:Option (Nat×Value)}(h:FR J W (some (x,L)) d):∃c,d=some (x,c)/\VR J L c/\x<W:=by cases d with|none=>trivial|some p=>obtain⟨j,c⟩:=p;obtain⟨rfl,h2,h3⟩:=h;grind
theorem IB{c:Option (Nat×Value)}(h:FR J x none c):c=none:=by grind[FR]
theorem Qi(h:dl P N J O F x M C){m:Operand}(k:D.op=.mapUpdate A m S Y\/D.op=.insert A m S Y)(l:bK P x D=some Q)(hU:ut M O Q)(he:aH Q M O=some (L,V)):bC P N J F (execOp C.eval D) L V:=by
 have Z:∃d,gD P A=some d/\∃E e,d=.map E e/\∃kd,ru P E=some kd/\∃s,fj P x m=some s/\∃g,fj P x S=some g/\∃n,fj P x Y=some n/\Q=.jK kd s g n:=by rcases k with k|k<;>simp only[bK,k,aeX,abF]at l<;>obtain⟨d,hd,l⟩:=l<;>refine⟨d,hd,?_⟩<;>split at l<;>(try(cases l;done))<;>simp only[abF,ahe,aa9]at l<;>obtain⟨kd,j,s,h1,g,h2,n,h3,h4⟩:=l<;>exact⟨_,_,rfl,kd,j,s,h1,g,h2,n,h3,h4.symm⟩
 obtain⟨d,hd,E,e,rfl,kd,j,s,h1,g,h2,n,h3,rfl⟩:=Z;have u:(execOp C.eval D)=(do Instr.mapUpdate A (C.eval m) (C.eval S) (C.eval Y);pure .skip):=by rcases k with k|k<;>simp only[execOp,k]
 have g1:=h.gv h1;have r:=h.gv h2;have g3:=h.gv h3;simp only[aH]at he;split at he;·grind
 rename_i q;have q:iH kd (gv M g)=true:=by simpa using q
 have y:=λem F=>DZ j q r em (P:=P) F;split at he
 .rename_i id hv;rw[hv]at g1;have⟨av,hb,hx⟩:=g1.po;split at he
  .rename_i es f p;have⟨bB,B,t⟩:=sK h.I p hb;split at he
   .rename_i i x' G;split at he;case isFalse=>grind
    rename_i ag;obtain⟨rfl,rfl⟩:=he;have⟨r',K,R⟩:=ur (P:=P) j r F t G;obtain⟨c,rfl,f3,f4⟩:=IA R;have⟨ce,q1,q2⟩:=Is j r 0 i x' t (by grind) ag;have⟨w1,r1,r2,r3,r4,r5⟩:=Qb (P:=P) (C.eval S) F;have⟨w',T,W,X⟩:=map_set (P:=P) h.I p hb (es':=kA (gv M n) (gv M g) es i) (ces':=bB.modify i λe=>{e with key:=C.eval S,val:=C.eval Y}) (by simp[r,g3,t,Array.toList_modify,ct.kA]) f (kB.modify (Bb h.I p hb B) i (λ_=>rfl)) r2 r3 r4 r5;refine bC.skip (w':=w') ?_ ⟨J,b9.refl J,VR.ai8 J,W,X⟩;have z:((bB[i]?).map (·.key)).getD (C.eval S)=C.eval S:=by rw[Array.getElem?_toList]at q1;rw[q1];simpa using q2
    simp only[u,Instr.mapUpdate,Sem.run_bind,bS hd,Result.andThen_ok,hx,Sem.run_pure,y,K,pp B,z,r1,T]
   .rename_i G;obtain⟨rfl,rfl⟩:=he;have⟨r',K,R⟩:=ur (P:=P) j r F t G;have:=IB R;subst this;have⟨w',T,W,X⟩:=map_set (P:=P) h.I p hb (es':=es++[⟨gv M g,gv M n,f⟩]) (ces':=bB.push {key:=C.eval S,val:=C.eval Y,born:=f}) (by simp[r,g3,t,Array.toList_push,ct.push]) (f+1) (kB.push (Bb h.I p hb B) rfl) (w1:=F) rfl rfl rfl rfl;refine bC.skip (w':=w') ?_ ⟨J,b9.refl J,VR.ai8 J,W,X⟩;simp only[u,Instr.mapUpdate,Sem.run_bind,bS hd,Result.andThen_ok,hx,Sem.run_pure,y,K,pp B,T]
   grind
  .rename_i es p;exact absurd p (hU _ _ _ rfl hv)
  grind
 grind
theorem IC(h:dl B N J O F x M C){g:Operand}(c:D.op=.mapUpdate A S Y g\/D.op=.insert A S Y g)(d:bK B x D=some Q)(he:aH Q M O=some (L,V)):bC B N J F (execOp C.eval D) L V:=D5 (λe f he=>Qi ⟨h.E,e⟩ c d f he) h.I he
theorem Qj(h:dl P N J O F x M a){c:Call}(Z:D.op=.call c)(hb:c.callee=.builtin .delete)(q:bK P x D=some Q)(hU:ut M O Q)(he:aH Q M O=some (L,V)):bC P N J F (execOp a.eval D) L V:=by
 simp only[bK,Z,hb,aeX,abF]at q;have⟨t,B,d,hd,q⟩:=q;have⟨A,j⟩:=uq (P:=P) (a:=a) Z hb F;split at q
 .simp only[abF,ahe,aa9]at q;obtain⟨kd,k,om,⟨ym,W,h1⟩,X,⟨yk,Y,h2⟩,rfl⟩:=q;have r:=h.gv h1;have C:=h.gv h2;have l:(c.args.map a.eval)[0]?=some (a.eval ym):=by simp[W]
  have m:(c.args.map a.eval)[1]?=some (a.eval yk):=by simp[Y]
  simp only[aH]at he;split at he;·grind
  rename_i n;have n:iH kd (gv M X)=true:=by simpa using n
  have p:=λem F=>DZ k n C em (P:=P) F;split at he;·rename_i s;obtain⟨rfl,rfl⟩:=he;rw[s]at r;have u:=r.sH;refine bC.val (c:=.tuple #[]) (w':=F) ?_ (cM.bI h.I (VR.ai8 J));rw[j];simp only[builtin,Builtin.delete_,B,l,m,Sem.run_bind,bS hd,Result.andThen_ok,u,p,Sem.run_pure]
  .rename_i id s;rw[s]at r;have⟨ag,e,u⟩:=r.po;split at he
   .rename_i es f g;have⟨bB,y,z⟩:=sK h.I g e;split at he;·rename_i i x' E;obtain⟨rfl,rfl⟩:=he;have⟨r',G,K⟩:=ur (P:=P) k C F z E;obtain⟨c',rfl,f3,f4⟩:=IA K;have⟨w',R,S,T⟩:=map_set (P:=P) h.I g e (es':=mL es i) (ces':=bB.eraseIdxIfInBounds i) (by simp[z,Array.toList_eraseIdxIfInBounds,ct.erase]) f (kB.erase (Bb h.I g e y) i) (w1:=F) rfl rfl rfl rfl;refine bC.val (c:=.tuple #[]) (w':=w') ?_ ⟨J,b9.refl J,VR.ai8 J,S,T⟩;rw[j];simp only[builtin,Builtin.delete_,B,l,m,Sem.run_bind,bS hd,Result.andThen_ok,u,p,Sem.run_pure,pp y,G,R]
    .rename_i E;obtain⟨rfl,rfl⟩:=he;have⟨r',G,K⟩:=ur (P:=P) k C F z E;have:=IB K;subst this;have⟨w',R,S,T⟩:=map_set (P:=P) h.I g e (es':=es) (ces':=bB) z f (Bb h.I g e y) (w1:=F) rfl rfl rfl rfl;refine bC.val (c:=.tuple #[]) (w':=w') ?_ ⟨J,b9.refl J,VR.ai8 J,S,T⟩;rw[j];simp only[builtin,Builtin.delete_,B,l,m,Sem.run_bind,bS hd,Result.andThen_ok,u,p,Sem.run_pure,pp y,G,R]
    grind
   .rename_i es g;exact absurd g (hU _ _ _ rfl s)
   grind
  grind
 grind
theorem Qk(h:dl B N J O F x M C){c:Call}(d:D.op=.call c)(hb:c.callee=.builtin .delete)(e:bK B x D=some Q)(he:aH Q M O=some (L,V)):bC B N J F (execOp C.eval D) L V:=D5 (λf g he=>Qj ⟨h.E,f⟩ d hb e g he) h.I he
section
variable{o:Oper}
theorem Ql(h:dl B N J O F x M C)(r:o.op=.range A S)(f:bK B x o=some Q)(he:aH Q M O=some (L,V)):bC B N J F (execOp C.eval o) L V:=by
 simp only[bK,r,aeX,abF]at f;have⟨d,hd,f⟩:=f;split at f
 .simp only[abF,ahe,aa9]at f;obtain⟨u,h1,rfl⟩:=f;have g:=h.gv h1;simp only[aH]at he;split at he
  .rename_i s i;obtain⟨rfl,rfl⟩:=he;rw[i]at g;have⟨t,G,k⟩:=g.mQ;have⟨l,n,p⟩:=h.I.alloc (o:=.kz s s 0) (ob:=.stringIter t 0) (0,0) (by trivial) aC rfl (by trivial);refine bC.val (c:=.pointer (some ⟨F.heap.size,0,none⟩)) (w':={F with heap:=F.heap.push (.stringIter t 0)}) ?_ ⟨_,l,?_,n,p⟩;·simp only[execOp,r,Instr.range,Sem.run_bind,bS hd,Result.andThen_ok,k,Sem.run_pure,run_newObj]
   simp[VR,aP.eA]
  grind
 .simp only[abF,ahe,aa9]at f;obtain⟨u,h1,rfl⟩:=f;have g:=h.gv h1;simp only[aH]at he;split at he
  .rename_i i;obtain⟨rfl,rfl⟩:=he;rw[i]at g;have k:=g.sH;have⟨l,n,p⟩:=h.I.alloc (o:=.mapIter none 0 [] 0) (ob:=.mapIter none 0 #[] 0) (0,0) (by trivial) aC rfl (by trivial);refine bC.val (c:=.pointer (some ⟨F.heap.size,0,none⟩)) (w':={F with heap:=F.heap.push (.mapIter none 0 #[] 0)}) ?_ ⟨_,l,?_,n,p⟩;·simp only[execOp,r,Instr.range,Sem.run_bind,bS hd,Result.andThen_ok,k,Sem.run_pure,run_newObj]
   simp[VR,aP.eA]
  .rename_i m i;rw[i]at g;have⟨R,hb,k⟩:=g.po;split at he
   .rename_i es e z;obtain⟨rfl,rfl⟩:=he;have⟨bB,D,K⟩:=sK h.I z hb;have q:b9 J (J.add O.next F.heap.size 0 (0,0)):=aP.qi _ _ _ (h.I.du _ (aeE _)).2 (λj c y E f=>by have:=h.I.ef j c y E;omega);obtain⟨l,n,p⟩:=h.I.alloc (o:=.mapIter (some m) e [] e) (ob:=.mapIter (some R) e #[] e) (0,0) (by trivial) aC rfl (by simp only[OR];exact⟨trivial,by exact(q _ _ hb).1,aC,aC,aC⟩);refine bC.val (c:=.pointer (some ⟨F.heap.size,0,none⟩)) (w':={F with heap:=F.heap.push (.mapIter (some R) e #[] e)}) ?_ ⟨_,l,?_,n,p⟩;·simp only[execOp,r,Instr.range,Sem.run_bind,bS hd,Result.andThen_ok,k,Sem.run_pure,run_newObj,pp D]
    simp[VR,aP.eA]
   grind
  grind
 grind
theorem wK{d:Obj}(h:F.heap[x]?=some d)(g:∀c e f,d≠.cells c e f):(getObj x).run B F=.ok d F:=by cases d with|cells c e f=>grind|_=>simp[h,getObj,Sem.run]
theorem Qm(h:dl B N J O F x M C)(t:o.op=.next S Z)(r:bK B x o=some Q)(he:aH Q M O=some (L,V)):bC B N J F (execOp C.eval o) L V:=by
 cases Z with
 |false=>simp only[bK,t,abH,bF,aeX,abF,ahe,aa9]at r;obtain⟨K,h1,rfl⟩:=r;simp[aH]at he
 |true=>
  simp only[bK,t,bg,aeX,abF,ahe,aa9]at r;obtain⟨K,h1,rfl⟩:=r;have E:=h.gv h1;simp only[aH]at he;split at he
  .rename_i id R;rw[R]at E;have⟨av,z,hb,D⟩:=E.l7;split at he
   .rename_i s G Y hi;have j:O.get id≠.none:=by rw[hi];simp
    have⟨b',z',T,y,i,k,l⟩:=h.I.aE j;rw[hb]at y;injection y with y;injection y with W X;subst W;subst X;rw[hi]at l;cases T<;>simp only[OR]at l;rename_i bs p;obtain⟨rfl,rfl,bz,e⟩:=l;have f:(getObj av).run B F=.ok (.stringIter bs p) F:=wK k (λ_ _ _=>by simp);have ag:bs.size=s.length:=by rw[<-bz,ahs,aia];rfl
    split at he
    .simp only[aa9,afm]at he;obtain⟨rfl,rfl⟩:=he;have n:¬p<bs.size:=by have:=List.drop_eq_nil_iff.1 e.symm;omega
     refine bC.val (c:=.tuple #[.bool false]) (w':=F) ?_ (cM.bI h.I (by simp[VR,be]));simp only[execOp,t,Instr.next,D,aiV,Sem.run_bind,f,Result.andThen_ok,n,bF,Sem.run_pure]
    rename_i c q;split at he
    .rename_i i;simp only[aa9,afm]at he;obtain⟨rfl,rfl⟩:=he;have i:c<128:=ahC (Nat.lt_succ_self c) (aht i);have m:s[p]?=some c:=by
      have:(s.drop p)[0]?=some c:=by rw[<-e];rfl
      rw[List.getElem?_drop]at this;simpa using this
     have A:p<bs.size:=by have:=(ahY.1 m).1;omega
     have u:p<bs.data.size:=A;have r:(bs.data[p]).toNat=c:=by rw[<-bz,ahB,Array.getElem?_toList,getElem?_pos bs.data p u]at m;simpa using m
     have g:Utf8.decode bs p=(c,1):=by
      have hg:(bs.get! (p+0)).toNat=c:=by rw[aiV,ByteArray.get!];rw[getElem!_pos bs.data p u];exact r
      simp only[Utf8.decode,hg,show c<0x80 from i,bg]
     have hu:=h.I.pi (i:=id) (o':=.kz s q (p+1)) (ob':=.stringIter bs (p+1)) j (by rw[hi];rfl) hb rfl (by simp only[OR];refine⟨trivial,trivial,bz,?_⟩;rw[<-List.drop_drop,<-e];rfl) (by simp[eQ]) (w':={F with heap:=F.heap.setIfInBounds av (.stringIter bs (p+1))}) rfl rfl rfl rfl;rw[hi]at hu;refine bC.val (c:=.tuple #[.bool true,goInt p,.int .i32 c]) (w':={F with heap:=F.heap.setIfInBounds av (.stringIter bs (p+1))}) ?_ ⟨J,b9.refl J,?_,hu.1,hu.2⟩;·simp only[execOp,t,Instr.next,D,aiV,Sem.run_bind,f,Result.andThen_ok,A,bg,g,wH F k (λ_ _ _=>by simp),Sem.run_pure]
     simp only[VR,be];exact⟨trivial,VR.goInt J p,by simp[kc],trivial⟩
    simp only[aa9,afm]at he;obtain⟨rfl,rfl⟩:=he;have A:p<bs.size:=by
     have:(s.drop p)[0]?=some c:=by rw[<-e];rfl
     rw[List.getElem?_drop]at this;have:=(ahY.1 (by simpa using this)).1;omega
    have g:Utf8.decode bs p=u8 s p:=by
     have hd:(s.map ai0).toArray=bs.data:=by rw[<-bz,aiF,show ai0∘aiJ=_root_.id from funext λ(aw:UInt8)=>by show ai0 aw.toNat=aw;simp,List.map_id,Array.toArray_toList]
     unfold u8;rw[hd]
    generalize u8 s p=d at*;have hu:=h.I.pi (i:=id) (o':=.kz s (s.drop (p+d.2)) (p+d.2)) (ob':=.stringIter bs (p+d.2)) j (by rw[hi];rfl) hb rfl (by simp only[OR];exact⟨trivial,trivial,bz,trivial⟩) (by simp[eQ]) (w':={F with heap:=F.heap.setIfInBounds av (.stringIter bs (p+d.2))}) rfl rfl rfl rfl;rw[hi]at hu;refine bC.val (c:=.tuple #[.bool true,goInt p,.int .i32 d.1]) (w':={F with heap:=F.heap.setIfInBounds av (.stringIter bs (p+d.2))}) ?_ ⟨J,b9.refl J,?_,hu.1,hu.2⟩;·simp only[execOp,t,Instr.next,D,aiV,Sem.run_bind,f,Result.andThen_ok,A,bg,g,wH F k (λ_ _ _=>by simp),Sem.run_pure]
    simp only[VR,be];exact⟨trivial,VR.goInt J p,by simp[kc],trivial⟩
   cases he
  cases he
theorem Qn(h:dl B N J O F x M C)(D:o.op=.entry S)(E:bK B x o=some Q)(he:aH Q M O=some (L,V)):bC B N J F (execOp C.eval o) L V:=by
 simp only[bK,D,aeX,abF,ahe,aa9]at E;obtain⟨ox,h1,rfl⟩:=E;have G:=h.gv h1;simp only[aH]at he;split at he
 .rename_i id W;rw[W]at G;have⟨av,z,hb,X⟩:=G.l7;split at he
  .rename_i m y seen T hi;have s:O.get id≠.none:=by rw[hi];simp
   have⟨b',z',Y,p,ag,t,c⟩:=h.I.aE s;rw[hb]at p;injection p with p;injection p with K Z;subst K;subst Z;rw[hi]at c;cases Y<;>simp only[OR]at c;rename_i R s' r t';obtain⟨rfl,d,rfl,g,rfl⟩:=c;have n:(getObj av).run B F=.ok (.mapIter R s' r t') F:=wK t (λ_ _ _=>by simp);cases R with
   |none=>simp[mP]at d
   |some mb=>
    simp only[mP]at d;split at he
    .rename_i bn es A hl hm;split at he
     .rename_i f;have f:=ahn f;subst f;have⟨bB,k1,k2⟩:=sK h.I hm d;split at he
      .rename_i i hf;have⟨_,_,e0,c0,q,q2,q3,q4⟩:=ct.pY bn 0 i k2 hf;split at he
       .rename_i K u;simp only[aa9,afm]at he;obtain⟨rfl,rfl⟩:=he;rw[aiW,u]at q;injection q with q;subst q;have j:r.back?=some bn:=by rw[<-g]at hl;have⟨l⟩:=r;simpa using hl
        have k:bB.find? (λe=>e.born==bn)=some c0:=by have⟨l⟩:=bB;simpa using q2
        refine bC.val (c:=.tuple #[c0.key,c0.val]) (w':=F) ?_ (cM.bI h.I (by simp only[VR,be];exact⟨q3,q4,trivial⟩));simp[execOp,D,Instr.entry,X,n,j,pp k1,k]
       cases he
      cases he
     cases he
    cases he
  cases he
 grind
theorem ct.filter{p:aV->Bool}{q:MapEntry->Bool}(d:∀(e:aV)(c:MapEntry),e.born=c.born->p e=q c):∀{es:List aV}{bB:List MapEntry},ct J es bB->ct J (es.filter p) (bB.filter q)
 |[],[],_=>by grind
 |e::es,c::bB,h=>by
  simp only[List.filter_cons,d e c h.2.2.1];split;·exact⟨h.1,h.2.1,h.2.2.1,ct.filter d h.2.2.2⟩
  exact ct.filter d h.2.2.2
 |[],_::_,h=>by trivial
 |_::_,[],h=>by trivial
theorem ct.get:∀{es:List aV}{bB:List MapEntry},ct J es bB->∀(i:Nat)(c:MapEntry),bB[i]?=some c->∃e:aV,es[i]?=some e/\VR J e.key c.key/\VR J e.val c.val/\e.born=c.born|[],[],_,i,c,h=>by grind|e::es,c::bB,h,0,d,f=>by simp_all[ct]|e::es,c::bB,h,i+1,d,f=>by simpa using ct.get h.2.2.2 i d f|[],_::_,h,_,_,_=>by trivial|_::_,[],h,_,_,_=>by grind
theorem ct.append:∀{es:List aV}{bB:List MapEntry}{f:List aV}{d:List MapEntry},ct J es bB->ct J f d->ct J (es++f) (bB++d)|[],[],_,_,_,h=>by grind|e::es,c::bB,_,_,h,g=>by exact⟨h.1,h.2.1,h.2.2.1,ct.append h.2.2.2 g⟩|[],_::_,_,_,h,_=>by trivial|_::_,[],_,_,h,_=>by trivial
theorem ct.ID(n:Nat):∀{es:List aV}{bB:List MapEntry},ct J es bB->es.all (λe=>aih n e.born)=bB.all (λe=>decide (e.born>=n))|[],[],_=>rfl|e::es,c::bB,h=>by simp only[List.all_cons,ct.ID n h.2.2.2,h.2.2.1];grind[decide_eq_true,Nat.ble_eq_true_of_le,decide_eq_false,aih,absurd,Nat.le_of_ble_eq_true]|[],_::_,h=>by trivial|_::_,[],h=>by trivial
theorem IE(h:dl P N J O F x M C){it:aJ}(E:bK P x o=some (.j6 it)){cs:List (Option aV)}{av:Option aV->AV×ai}(he:rm O (gv M it)=some (cs,av)):∃i c,i<cs.length/\cs[i]?=some c/\bC P N J F (execOp C.eval o) (av c).1 (av c).2:=by
 obtain⟨cE,ho,hx⟩:∃cE,o.op=.next cE false/\fj P x cE=some it:=by
  unfold bK at E;simp only[aeX,ahe]at E;split at E;all_goals(try(exfalso;(repeat'(first|(cases E;done)|(rw[abF]at E;obtain⟨_,_,E⟩:=E)|split at E));done))
  rename_i cE s ho;cases s with|true=>simp only[bg,abF,aa9,reduceCtorEq,and_false,exists_false]at E|false=>simp only[abH,bF,abF,aa9,bJ.j6.injEq]at E;obtain⟨y,h1,rfl⟩:=E;exact⟨cE,ho,h1⟩
 have g1:=h.gv hx;unfold rm at he;split at he
 .rename_i id hv;rw[hv]at g1;have⟨cR,z,hb,a8⟩:=g1.l7;split at he
  .rename_i hi;simp only[aa9,afm]at he;obtain⟨rfl,rfl⟩:=he;obtain⟨cx,z',ob,T,b7,W,r⟩:=h.I.aE (i:=id) (by rw[hi];simp);rw[hb]at T;injection T with T;injection T with e1 e2;subst e1;subst e2;rw[hi]at r;cases ob<;>simp only[OR]at r;rename_i m' g l t';obtain⟨rfl,h1,_⟩:=r;have:m'=none:=by cases m'<;>simp[mP]at h1;rfl
   subst this;refine⟨0,none,aC,rfl,bC.val (c:=.tuple #[.bool false]) (w':=F) ?_ (cM.bI h.I (by simp[VR,be]))⟩;simp only[execOp,ho,Instr.next,a8,aiV,Sem.run_bind,wK W (λ_ _ _=>by simp),Result.andThen_ok,Sem.run_pure]
  .rename_i m cp seen cv hi;split at he
   .rename_i es k hm;split at he;·cases he
    rename_i ay;simp only[aa9,afm]at he;obtain⟨rfl,rfl⟩:=he;obtain⟨cx,z',ob,T,b7,W,r⟩:=h.I.aE (i:=id) (by rw[hi];simp);rw[hb]at T;injection T with T;injection T with e1 e2;subst e1;subst e2;rw[hi]at r;cases ob<;>simp only[OR]at r;rename_i m' g l t';obtain⟨rfl,h1,rfl,h3,rfl⟩:=r;obtain⟨G,rfl⟩:∃G,m'=some G:=by cases m' with|none=>simp[mP]at h1|some G=>exact⟨G,rfl⟩
    have a':J m=some (G,0):=h1;have⟨bB,k1,k2⟩:=sK h.I hm a';have a1:∀n,l.contains n=seen.contains n:=λn=>by rw[<-h3,Array.contains_toList]
    have hl:=k2.filter (p:=λe=>!seen.contains e.born) (q:=λe=>!l.contains e.born) (λe c L=>by rw[L,a1]);have eg:=hl.filter (p:=λe=>ahO e.born g) (q:=λe=>decide (e.born<g)) (λe c L=>by
     rw[L];by_cases q:c.born<g;·rw[decide_eq_true q];exact ai5 aib q
     rw[decide_eq_false q];cases hb:ahO c.born g with|false=>rfl|true=>exact absurd (Eq.mp aib hb) q);have Q:=hl.filter (p:=λe=>!ahO e.born g) (q:=λe=>decide (e.born>=g)) (λe c L=>by
     rw[L];by_cases q:c.born<g;·rw[decide_eq_false aa,show ahO c.born g=true from ai5 aib q];rfl
     rw[decide_eq_true aa];cases hb:ahO c.born g with|false=>rfl|true=>exact absurd (Eq.mp aib hb) q);have d:=eg.append Q;have X:(!l.isEmpty&&!bB.isEmpty&&bB.all λe=>decide (e.born>=t'))=false:=by
     have e1:l.isEmpty=seen.isEmpty:=by rw[<-h3,Array.isEmpty_toList]
     have e2:bB.isEmpty=es.isEmpty:=by have hh:=ct.length k2;rw[<-Array.isEmpty_toList];cases bv:bB.toList<;>rw[bv]at hh<;>cases es<;>first|rfl|simp at hh
     have e3:=k2.ID t';rw[e1,e2,<-Array.all_toList,<-e3];simpa using ay
    generalize b':(es.filter λe=>!seen.contains e.born).filter (λe=>ahO e.born g)=V at eg d⊢;generalize cy:(es.filter λe=>!seen.contains e.born).filter (λe=>!ahO e.born g)=nA at Q d⊢;generalize aw:(bB.toList.filter λe=>!l.contains e.born).filter (λe=>decide (e.born<g))=K at eg d;generalize ca:(bB.toList.filter λe=>!l.contains e.born).filter (λe=>decide (e.born>=g))=nL at Q d;have B:V.isEmpty=K.isEmpty:=by have hh:=ct.length eg;clear b' aw eg d;cases V<;>cases K<;>first|rfl|simp at hh
    have b0:(V++nA).length=(K++nL).length:=ct.length d;let p:List (Option MapEntry):=(if K.isEmpty then[none]else[])++(K++nL).map some;have Y:p.length=((if V.isEmpty then[none]else[])++(V++nA).map some:List (Option aV)).length:=by simp only[p,ae8,ahs,B]at b0⊢;split<;>simp<;>omega
    have Z:0<p.length:=by simp only[p,ae8,ahs];cases K with|nil=>simp;omega|cons C cR=>simp;omega
    have cd:∃(j:Nat)(A:World),j<p.length/\(A=F\/A=F.drew)/\(choose (Question.mapNext p.length)).run P F=.ok j A:=by
     by_cases hf:p.length<=1;·exact⟨0,F,Z,Or.inl rfl,by simp[choose,Sem.run,Question.forced,hf]⟩
     exact⟨_,F.drew,Nat.mod_lt _ Z,Or.inr rfl,by simp only[choose,Sem.run,Question.forced,decide_eq_true_eq,hf,bF,Question.cut];rfl⟩
    have⟨j,A,hj,ba,b3⟩:=cd;have ag:A.heap=F.heap:=by rcases ba with rfl|rfl<;>rfl
    have bb:bm P N J O A:=h.I.A3 ag;have bc:dk N F A:=by rcases ba with rfl|rfl;exact dk.refl N _;exact(dk.refl N _).drew
    have R:((if(aiL (λe:MapEntry=>decide (e.born<g)) (aiL (λe:MapEntry=>!l.contains e.born) bB)).isEmpty=true then #[none]else #[])++Array.map some (aiL (λe:MapEntry=>decide (e.born<g)) (aiL (λe:MapEntry=>!l.contains e.born) bB)++aiL (λe:MapEntry=>decide (e.born>=g)) (aiL (λe:MapEntry=>!l.contains e.born) bB))).toList=p:=by
     simp only[p,Array.toList_append,Array.toList_map,Array.toList_filter,aw,ca];congr 1;have:(aiL (λe:MapEntry=>decide (e.born<g)) (aiL (λe:MapEntry=>!l.contains e.born) bB)).isEmpty=K.isEmpty:=by rw[<-aw,<-Array.toList_filter,<-Array.toList_filter,Array.isEmpty_toList]
     rw[this];split<;>rfl
    generalize a2:((if(aiL (λe:MapEntry=>decide (e.born<g)) (aiL (λe:MapEntry=>!l.contains e.born) bB)).isEmpty=true then #[none]else #[])++Array.map some (aiL (λe:MapEntry=>decide (e.born<g)) (aiL (λe:MapEntry=>!l.contains e.born) bB)++aiL (λe:MapEntry=>decide (e.born>=g)) (aiL (λe:MapEntry=>!l.contains e.born) bB)))=CA at R;have a6:CA.size=p.length:=by rw[<-R,aia]
    have u:(execOp C.eval o).run P F=((match p[j]? with|some (some e)=>(do setObj cR (.mapIter (some G) g (l.push e.born) k);pure (.value (.tuple #[.bool true,e.key,e.val])))|some none=>pure (.value (.tuple #[.bool false]))|none=>stuck "Next: no such candidate"):Sem Next).run P A:=by simp only[execOp,ho,Instr.next,a8,aiV,Sem.run_bind,wK W (λ_ _ _=>by simp),Result.andThen_ok,pp k1,X,abH,bF,a2,a6,b3];rw[<-Array.getElem?_toList,R];cases f:p[j]? with|none=>simp only[stuck,Sem.run_bind];rfl|some c'=>cases c' with|none=>simp|some e=>simp only[Sem.run_bind,Sem.run_pure];cases Sem.run P (setObj cR (.mapIter (some G) g (l.push e.born) k)) A<;>rfl
    have S:=hj;rw[Y]at S;cases f:p[j]? with
    |none=>rw[List.getElem?_eq_none_iff]at f;omega
    |some c'=>
     rw[f]at u;cases c' with
     |none=>
      have cf:((if V.isEmpty then[none]else[])++(V++nA).map some:List (Option aV))[j]?=some none:=by
       simp only[p]at f;by_cases he:K.isEmpty=true;·rw[B];simp only[he,bg]at f⊢;cases j with|zero=>simp|succ j=>simp only[List.singleton_append,ail,ahB,ae2]at f;obtain⟨_,_,h⟩:=f;cases h
       have ax:K.isEmpty=false:=by simpa using he
       simp only[ax,abH,bF,aie,ahB,ae2]at f;obtain⟨_,_,h⟩:=f;cases h
      refine⟨j,none,S,cf,bC.val (c:=.tuple #[.bool false]) (w':=A) ?_ ⟨J,b9.refl J,by simp[VR,be],bb,bc⟩⟩;rw[u];simp
     |some e=>
      obtain⟨D,cn,v1,v2,v3⟩:∃D:aV,((if V.isEmpty then[none]else[])++(V++nA).map some:List (Option aV))[j]?=some (some D)/\VR J D.key e.key/\VR J D.val e.val/\D.born=e.born:=by
       simp only[p]at f;by_cases he:K.isEmpty=true;·rw[B];simp only[he,bg]at f⊢;cases j with|zero=>simp at f|succ j=>simp only[List.singleton_append,ail,ahB,ae2]at f⊢;have⟨e0,h0,t⟩:=f;injection t with t;subst t;have⟨D,q1,q2,q3,q4⟩:=d.get j e0 h0;exact⟨D,⟨D,q1,rfl⟩,q2,q3,q4⟩
       rw[B];have ax:K.isEmpty=false:=by simpa using he
       simp only[ax,abH,bF,aie,ahB,ae2]at f⊢;have⟨e0,h0,t⟩:=f;injection t with t;subst t;have⟨D,q1,q2,q3,q4⟩:=d.get j e0 h0;exact⟨D,⟨D,q1,rfl⟩,q2,q3,q4⟩
      have b4:A.heap[cR]?=some (.mapIter (some G) g l t'):=by rw[ag];exact W
      have b6:=wH (P:=P) A b4 (λ_ _ _=>by simp) (.mapIter (some G) g (l.push e.born) k);have hu:=bb.pi (i:=id) (o':=.mapIter (some m) g (seen++[D.born]) k) (ob':=.mapIter (some G) g (l.push e.born) k) (w':={A with heap:=A.heap.setIfInBounds cR (.mapIter (some G) g (l.push e.born) k)}) (by rw[hi];simp) (by rw[hi];rfl) hb rfl (by simp only[OR];exact⟨trivial,a',trivial,by rw[Array.toList_push,h3,v3],trivial⟩) (by simp[eQ]) rfl rfl rfl rfl;rw[hi]at hu;refine⟨j,some D,S,cn,bC.val (c:=.tuple #[.bool true,e.key,e.val]) (w':=_) ?_ ⟨J,b9.refl J,by simp[VR,be,v1,v2],hu.1,bc.trans hu.2⟩⟩;rw[u];simp only[Sem.run_bind,b6,Result.andThen_ok,Sem.run_pure]
   cases he
  cases he
 grind
end
theorem Qo(h:dl B N J O F x M C)(n:D.op=.binOp op A S Y f)(c:bK B x D=some Q)(he:aH Q M O=some (L,V)):bC B N J F (execOp C.eval D) L V:=by
 have hu:∃d,B.underlying A=some d:=by simp only[bK,n,aeX,gD]at c;cases hu:B.underlying A with|none=>rw[hu]at c;simp at c|some d=>exact⟨d,rfl⟩
 have⟨d,hu⟩:=hu;by_cases hint:∃k,d=.int k
 .obtain⟨k,rfl⟩:=hint;by_cases hs:op=.shl\/op=.shr;·grind[Pr]
  exact Pq h n hu (by grind) c he
 by_cases g:d=.string;·subst g;exact Pv h n hu c he
 have p:∀k,B.underlying A≠some (.int k):=λk e=>by rw[hu]at e;injection e with e;exact hint ⟨k,e⟩
 have q:B.underlying A≠some .string:=λe=>by rw[hu]at e;injection e with e;exact g e
 have key:∃neg j l m,op=(if neg then .neq else .eql)/\iA B 16 (pe S||pe Y) A=some j/\wx B j A=true/\fj B x S=some l/\fj B x Y=some m/\Q=.eq neg j l m:=by
  simp only[bK,n,aeX,gD,hu,aiS]at c;cases op<;>cases d<;>first|(exact absurd ⟨_,rfl⟩ hint)|(exact absurd rfl g)|(simp at c;done)|skip
  all_goals
   simp only[abF]at c;have⟨j,i,c⟩:=c;split at c;case isFalse=>cases c
   rename_i hg;simp only[abF,ahe,aa9]at c;have⟨l,h1,m,h2,h3⟩:=c;first|exact⟨false,j,l,m,rfl,i,hg,h1,h2,h3.symm⟩|exact⟨true,j,l,m,rfl,i,hg,h1,h2,h3.symm⟩
 obtain⟨neg,j,l,m,r,i,hg,h1,h2,rfl⟩:=key;exact Qa h n r i hg h1 h2 p q he
theorem Qp(h:dl B N J O F x M C){c:Call}{f:Builtin}(d:D.op=.call c)(hb:c.callee=.builtin f)(e:bK B x D=some Q)(he:aH Q M O=some (L,V)):bC B N J F (execOp C.eval D) L V:=by cases f with|len=>grind[PK]|cap=>grind[PL]|append=>grind[PX]|copy=>grind[PY]|delete=>grind[Qk]|min=>exact Ic (isMax:=false) h d hb e he|max=>exact Ic (isMax:=true) h d hb e he|clear=>grind[PZ]|_=>simp_all[bK]
theorem zb(h:dl B N J O F x M C)(g:bK B x D=some Q)(he:aH Q M O=some (L,V)):bC B N J F (execOp C.eval D) L V:=by
 cases j:D.op with
 |move u=>grind[HP]
 |assign u=>exact HP h (.inr j) g he
 |pick c u y=>grind[Pg]
 |alloc e=>grind[Ph]
 |box e u=>grind[Pj]
 |build t dX=>grind[PN]
 |buildSlice t len dX=>grind[PO]
 |insert t m k u=>exact IC h (.inr j) g he
 |load t u=>grind[Pk]
 |store t u y=>grind[Pm]
 |nilCheck u=>grind[Pn]
 |binOp op t u y n=>grind[Qo]
 |unOp op t u=>grind[Pw]
 |convert s d u=>grind[PR]
 |makeInterface t u=>grind[Px]
 |makeFunc f u y=>grind[Py,bK]
 |makeMap t r=>grind[Pz,bK]
 |makeSlice t u y=>grind[PQ]
 |slice t u lo hi p=>grind[PH]
 |fieldAddr t u i=>grind[PB]
 |field t u i=>grind[PA]
 |indexAddr t u i=>grind[PD]
 |index t u i=>grind[PE]
 |lookup t m k ok=>grind[Qh]
 |mapUpdate t m k u=>grind[IC]
 |range t u=>grind[Ql]
 |next l s=>grind[Qm]
 |entry l=>grind[Qn]
 |typeAssert u q t ok=>grind[PS]
 |extract u i=>grind[PC]
 |call c=>cases hb:c.callee with|builtin z=>grind[Qp]|value f=>simp only[bK,j,hb,aeX,abF,ahe,aa9]at g;obtain⟨_,_,_,_,rfl⟩:=g;trivial|invoke r m=>simp_all[bK]
 |_=>simp_all[bK]
section
variable{ρ:aP}{H:ai}{nt:Nat}
def kS(ρ:aP):List ah->List Deferred->Prop
 |[],[]=>True
 |i::l,d::m=>(∃r,ρ i=some (r,0)/\d={target:=.collected r,args:= #[]})/\kS ρ l m
 |_,_=>False
theorem kS.mono(h:b9 J u):∀{l:List ah}{m:List Deferred},kS J l m->kS u l m|[],[],_=>trivial|_::_,_::_,k=>⟨by obtain⟨⟨r,h1,h2⟩,_⟩:=k;exact⟨r,(h _ _ h1).1,h2⟩,kS.mono h k.2⟩|[],_::_,k=>by trivial|_::_,[],k=>by trivial
structure gI(ρ:aP)(nt:Nat)(fr:Fr)(ro:Option Nat)(a:Act):Prop where
 E:gP ρ nt fr.af a.tmps
 D:kS ρ fr.bA a.defers
 R:mP ρ fr.bx ro
theorem gI.mono(h:b9 J u){fr:Fr}{ro:Option Nat}(k:gI J nt fr ro a):gI u nt fr ro a:=⟨k.E.mono h,k.D.mono h,by
 have:=k.R;revert this;cases fr.bx<;>cases ro<;>simp only[mP]<;>intro q;·simp
 .omega
 .omega
 exact(h _ _ q).1⟩
def wL(k:List Item):cC->List Item->Prop
 |.none,t=>t=k
 |.exit id,t=>∃a,t=.code (.exit id)::a/\exitTo id a=exitTo id k
 |.ret,t=>∃a,t=.code .ret::a
def mR(f:Value)(args:Array Value):Sem Next:=do
 let d<-Deferred.ofValue f args
 invoke d.target d.args
def qk(fr:Frame):Prop:=
 match fr.todo with
 |.inRegion _ _::_|.inRangeFunc _::_=>True
 |_=>False
theorem Bj(h:l.run B F=.ok (.value I) o):(stepG.apply B true g c none l F).bare=.go {frame:=g.finish I,callers:=c,status:=.running,dying:=none} o:=by simp[h,stepG.apply]
theorem D6(h:l.run B F=.ok .skip o):(stepG.apply B true g c none l F).bare=.go {frame:=g.finish undef,callers:=c,status:=.running,dying:=none} o:=by simp[h,stepG.apply]
theorem IF(a:qk g){f:FuncId}(h:l.run B F=.ok (.enter f E) o):(stepG.apply B true g c none l F).bare=.go {frame:=Frame.enter B f E .normal,callers:=g::c,status:=.running,dying:=none} o:=by have⟨fn,tmps,d,defers,mode,kind,ro⟩:=g;unfold qk at a;simp only at a;split at a<;>first|(exact False.elim a)|simp[stepG.apply,h]
theorem Qq(a:qk g){f:FuncId}{assign body:Code}(h:l.run B F=.ok (.round x f E assign body) o):(stepG.apply B true g c none l F).bare=.go {frame:=Frame.round x f E assign body .normal,callers:=g::c,status:=.running,dying:=none} o:=by simp[a,h,qk,False.elim,stepG.apply]
theorem IG:∀(l:List AV)(p:Nat)(t:az AV)(i:Nat),(jL l (ah.cV p) t).get .ai8 (ah.cV i)=if p<=i/\i<p+l.length then l.getD (i - p) .ai8 else t.get .ai8 (ah.cV i)
 |[],p,t,i=>by rw[jL,an (by simp only[List.length_nil];omega)]
 |v::l,p,t,i=>by
  rw[jL,show(ah.cV p).succ=ah.cV (p+1)from rfl,IG l (p+1),az.aG];simp only[ahK];by_cases h1:p+1<=i/\i<p+1+l.length;·rw[aF h1,aF aa,show i - p=(i - (p+1))+1 by omega];simp
  rw[an h1];by_cases h2:i=p;·subst h2;rw[aF rfl,aF aa];simp
  rw[an (λe=>h2 (ah.bE e)),an aa]
theorem D7:∀p:ah,(az.ch:az AV).get .ai8 p=.ai8|.xH=>rfl|.xO p=>by exact D7 p|.xI p=>by exact D7 p
theorem IH(h:be ρ X E.toList)(a:X.length<=nt):gP ρ nt (jL X .xH .ch) (E++Array.replicate (nt - E.size) undef):=by
 have hl:X.length=E.size:=by have:=be.length h;simpa using this
 refine⟨by grind,λt d=>?_⟩;have:=IG X 0 .ch t;rw[show ah.cV 0=.xH from rfl]at this;rw[this,D7];by_cases h1:t<X.length;·have⟨c,e,f⟩:=be.get h t X[t] aC;have h2:t<E.size:=aa;simp_all
 rw[an aa];have:(E++Array.replicate (nt - E.size) undef).getD t undef=undef:=by rw[ah2,Array.getElem?_append_right aa,Array.getElem?_replicate];split<;>rfl
 rw[this];exact VR.ai8 ρ
theorem II:∀{ps:List Tmp}{a:List AV}{cs:List Value}{M:az AV}{tmps:Array Value},gP ρ nt M tmps->be ρ a cs->a.length=ps.length->gP ρ nt (lZ (ps.map ah.cV) a M) ((ps.zip cs).foldl (λtmps(p:Tmp×Value)=>tmps.setIfInBounds p.1 p.2) tmps)|[],[],[],M,tmps,h,_,_=>by trivial|p::ps,v::a,c::cs,M,tmps,h,d,hl=>by simp only[ahk,lZ,List.zip_cons_cons,List.foldl_cons];exact II (h.set d.1) d.2 (by grind)|[],_::_,_,_,_,_,_,hl=>by grind|_::_,[],_,_,_,_,_,hl=>by grind|_,[],_::_,_,_,_,d,_=>by trivial|_,_::_,[],_,_,_,d,_=>by trivial
theorem D8:∀{l:List ah}{k:List Deferred}{H H':ai}{F:World},bm B N ρ H F->kS ρ l k->iI H l=some H'->∀(fr:Frame)(cs:List Frame),fr.mode=.returning->∃w',Steps B (lone {fr with defers:=k} cs F) (lone {fr with defers:=[]} cs w')/\bm B N ρ H' w'/\dk N F w'
 |[],[],H,H',F,n,_,h,fr,cs,_=>by grind[iI,Option.some.injEq,Steps.refl,dk.refl]
 |i::l,d::k,H,H',F,n,f,h,fr,cs,o=>by
  obtain⟨⟨r,p,rfl⟩,f⟩:=f;simp only[iI]at h;split at h
  .rename_i hi;have g:H.get i≠.none:=by rw[hi];simp
   have⟨z,A,q,m,y,j,a⟩:=n.aE g;rw[p]at m;injection m with m;injection m with s t;subst s;subst t;rw[hi]at a;cases q<;>simp only[OR]at a;rename_i cs';have⟨_,c⟩:=a;have c:=c trivial;subst c;have hu:=n.pi (i:=i) (o':=.deferred true) (ob':=.deferred none) g (by rw[hi];rfl) p rfl (by simp only[OR];exact⟨trivial,λh=>by cases h⟩) (by simp[eQ]) (w':={F with heap:=F.heap.setIfInBounds r (.deferred none)}) rfl rfl rfl rfl;rw[hi]at hu;have⟨w',u,v,x⟩:=D8 hu.1 f h fr cs o;have e:(Instr.takeDeferred r).run B F=.ok [] {F with heap:=F.heap.setIfInBounds r (.deferred none)}:=by simp only[Instr.takeDeferred,Sem.run_bind,wK j (λ_ _ _=>by simp),Result.andThen_ok,wH F j (λ_ _ _=>by simp),Sem.run_pure]
   refine⟨w',.head (step_lone_go (fr':={fr with defers:=k}) (cs':=cs) (w':={F with heap:=F.heap.setIfInBounds r (.deferred none)}) ?_) u,v,hu.2.trans x⟩;simp[stepG,o,unwind,Sem.runT_eq,e]
  grind
 |[],_::_,_,_,_,_,f,_,_,_,_=>by trivial
 |_::_,[],_,_,_,_,f,_,_,_,_=>by trivial
def Bk(tmps:Array Value):ResultVar->Sem Value
 |.tmp t=>pure (tmps.getD t undef)
 |.cell a t=>do loadVar t (<-asAddr (tmps.getD a undef))
theorem Qr(fn:Func)(tmps:Array Value):results fn tmps=(do let a<-fn.results.mapM (Bk tmps)pure (if h:a.size=1 then a[0]else .tuple a)):=rfl
theorem D9(j:bm B N ρ H F)(i:gP ρ nt M E):∀{k:List ResultVar}{d:List gO}{l:List AV},k.mapM (wA B nt)=some d->fH M H d=some l->∃e:List Value,be ρ l e/\(k.mapM (Bk E)).run B F=.ok e F
 |[],d,l,h1,h2=>by simp_all[List.mapM_nil,ahe,aa9,fH,be]
 |r::k,d,l,h1,h2=>by
  simp only[aiO,aeX,abF,ahe,aa9]at h1;obtain⟨ar,a,x,f,rfl⟩:=h1;cases r with
  |tmp t=>
   simp only[wA]at a;split at a
   .rename_i m;injection a with a;subst a;simp only[fH,ae2]at h2;obtain⟨A,p,rfl⟩:=h2;have⟨e,n,o⟩:=D9 j i f p;refine⟨E.getD t undef::e,?_,?_⟩;·exact⟨i.2 t m,n⟩
    simp[o,aiO,Bk,Sem.run_bind,Sem.run_pure,Result.andThen_ok]
   grind
  |cell ad t=>
   simp only[wA]at a;split at a
   .rename_i g s hg hs;split at a
    .rename_i m;injection a with a;subst a;simp only[fH]at h2;split at h2;·rename_i v C y q;injection h2 with h2;subst h2;have⟨D,hb,c,z,u⟩:=HQ j (i.2 ad m) hg (λh=>by grind) (λh=>by grind) y;have⟨e,n,o⟩:=D9 j i f q;simp[u,n,hb,z,o,be,aiO,Bk,asAddr,Sem.run_bind,Sem.run_pure,Result.andThen_ok]
     grind
    grind
   grind
theorem IJ(f:bm B N ρ H F){fn:Func}(g:gP ρ fn.ntmps M E){d:List gO}(h1:fn.results.toList.mapM (wA B fn.ntmps)=some d)(h2:fH M H d=some X):∃c,(results fn E).run B F=.ok c F/\VR ρ (gC X) c:=by have⟨e,a,h⟩:=D9 f g h1 h2;have hl:=be.length a;rw[Qr,Array.mapM_eq_mapM_toList];simp only[Sem.run_bind,Sem.run_map,h,Result.andThen_ok,Sem.run_pure];match X,e,a,hl with|[],[],_,_=>exact⟨.tuple #[],aC,by simp[gC,VR,be]⟩|[v],[c],a,_=>exact⟨c,aC,by simp only[be]at a;exact a.1⟩|v::i::X,c::c2::e,a,_=>refine⟨.tuple (c::c2::e).toArray,aC,?_⟩;simp only[gC,VR];exact a
end
section
variable{P:Program}
abbrev da:Nat->(Nat->Prop)->Prop:=λn k=>∀i,i<n->k i
def wM(P:Program)(d:cq)(e:aP)(w:World)(s:Sem Next)(fr:Frame)(cs:List Frame)(K:KT):Prop:=
 ∃v H' c w' fr1 a b,K v H'/\cM P d e w v H' c w'/\
  (stepG.apply P true fr cs none s w).bare=.go {frame:=fr1,callers:=a,status:=.running,dying:=none} b/\Steps P (lone fr1 a b) (lone (fr.finish c) cs w')
def zc(P:Program)(f:FuncId)(g:List AV->ai->Option (AV×ai)):Prop:=
 ∀{c:cq}{a:aP}{H H':ai}{w:World}{args:List AV}{v:AV}{argv:Array Value},g args H=some (v,H')->be a args argv.toList->bm P c a H w->∀(fr:Frame)(cs:List Frame),qk fr->
  wM P c a w (callFunc f argv) fr cs λd b=>d=v/\b=H'
def rF(P:Program)(ac:Nat->aX)(n:Nat):Prop:=
 ∀{b:cq}{a:aP}{H:ai}{w:World}{c:AV}{args:List AV}{K:KT}{fv:Value}{argv:Array Value},fC False da ac n c args H K->VR a c fv->be a args argv.toList->bm P b a H w->
  ∀(fr:Frame)(cs:List Frame),qk fr->wM P b a w (mR fv argv) fr cs K
def gY(P:Program)(d:cq)(f:aP)(g:Nat)(w:World)(b:Frame)(k:List Item)(cs:List Frame)(m:Machine)(K:cC->Fr->ai->Prop):Prop:=
 ∃j c H' a e w' t,K j c H'/\b9 f a/\gI a g c b.roundOf e/\bm P d a H' w'/\dk d w w'/\wL k j t/\Steps P m (lone (b.atR e t) cs w')
def uu(P:Program)(t:Nat)(g:az AV->ai->Option (az AV×ai)):Prop:=
 ∀{f:cq}{e:aP}{H H':ai}{w:World}{d:Nat}{fr:Fr}{c1 c2:Code}{x y:bw}{c:az AV}{b:Frame}{a:Act},eJ P d c1=some x->eJ P d c2=some y->Ov.code t=.seq x y->g fr.af H=some (c,H')->gI e d fr b.roundOf a->bm P f e H w->
  ∀(k:List Item)(cs:List Frame),gY P f e d w b k cs (lone (b.atR a (.code (.seq c1 c2)::k)) cs w) λj fr1 H1=>j=.none/\fr1={fr with af:=c}/\H1=H'
structure lI(P:Program)(ac:Nat->aX):Prop where
 code:∀f nt rs body,ac f=.code nt rs body->∃fn,P.funcs[f]?=some fn/\yU P fn=some (.code nt rs body)/\(fn.name== "runtime.NumGoroutine")=false
 ji:∀f g,ac f=.ji g->zc P f g
 eH:∀t g,ac t=.eH g->uu P t g
def wN(P:Program)(ac:Nat->aX)(n:Nat):Prop:=
 ∀{f:cq}{d:aP}{H:ai}{w:World}{e:Nat}{fr:Fr}{c:bw}{cc:Code}{K:cC->Fr->ai->Prop}{b:Frame}{a:Act},eJ P e cc=some c->exec False da ac n c fr H K->gI d e fr b.roundOf a->bm P f d H w->
  ∀(k:List Item)(cs:List Frame),gY P f d e w b k cs (lone (b.atR a (.code cc::k)) cs w) K
def wO(P:Program)(a:Nat)(aA:Array Oper):List Nat->List bD->Prop
 |[],[]=>True
 |i::is,x::l=>(∃o,aA[i]?=some o/\pf P a aA o=some x)/\wO P a aA is l
 |_,_=>False
def Bm(P:Program)(ac:Nat->aX)(n:Nat):Prop:=
 ∀{e:cq}{c:aP}{H:ai}{w:World}{d:Nat}{fr:Fr}{l:List bD}{is:List Nat}{aA:Array Oper}{K:Fr->ai->Prop}{b:Frame}{a:Act},wO P d aA is l->Go.al.aA False da ac n l fr H K->gI c d fr b.roundOf a->bm P e c H w->
  ∀(k:List Item)(cs:List Frame),gY P e c d w b k cs (lone (b.atR a (.inRegion aA is::k)) cs w) λj fr H=>(match j with|.none=>True|_=>False)/\K fr H
theorem gY.iN{m d:Machine}(h:Steps P m d)(e:gY P N J x F g q c d H):gY P N J x F g q c m H:=by have⟨j,a,f,b,i,k,t,h1,h2,h3,l,n,o,p⟩:=e;exact⟨j,a,f,b,i,k,t,h1,h2,h3,l,n,o,h.trans p⟩
theorem gY.wP{m:Machine}(he:b9 J u)(d:dk N F w)(e:gY P N u x w g q c m H):gY P N J x F g q c m H:=by have⟨j,a,f,b,h,i,t,h1,h2,h3,k,l,n,o⟩:=e;exact⟨j,a,f,b,h,i,t,h1,he.trans h2,h3,k,d.trans l,n,o⟩
theorem gY.mono{m:Machine}{K:cC->Fr->ai->Prop}(d:gY P N J nt F g q c m K)(e:∀j fr k,K j fr k->H j fr k):gY P N J nt F g q c m H:=by have⟨j,a,f,b,h,i,t,h1,h2⟩:=d;exact⟨j,a,f,b,h,i,t,e _ _ _ h1,h2⟩
theorem gI.put{fr:Fr}{ro:Option Nat}(h:gI J x fr ro C)(a:VR J L I)(d:Option Tmp):gI J x {fr with af:=aQ fr.af (d.map ah.cV) L} ro (C.put d I):=by cases d with|none=>trivial|some d=>exact⟨h.E.set a,h.D,h.R⟩
theorem zd{c:bD}(h:pf P x b D=some c):c.dst=D.dst.map ah.cV/\c.iy=[]/\c.re=[]/\c.op=(if((bK P x D).getD .lY).yR&&!wy D.op then .lY else(bK P x D).getD .lY)/\((D.guard=none/\c.guard=none)\/∃j a g d,D.guard=some (j,a)/\b[j]?=some g/\g.dst=some d/\d<x/\c.guard=some (ah.cV d,a)):=by
 unfold pf at h;split at h;·rename_i d g hd hg;injection h with h;subst h;refine⟨?_,rfl,rfl,rfl,?_⟩;all_goals grind[HI,Option.some.injEq,HJ,Option.bind_eq_some_iff]
 grind
theorem Ea{g:Option (ah×Bool)}(h:d8 M g=true):ka M g=true:=by
 cases g with
 |none=>rfl
 |some g=>
  simp only[d8]at h;simp only[ka];split at h;·rename_i he;rw[he];rfl
  cases h
theorem IK{fr:Fr}{ro:Option Nat}(h:gI J x fr ro a){o:bD}(k:pf P x b D=some o)(c:ka fr.af o.guard=true):Region.wanted D (yielded b a.tmps)=d8 fr.af o.guard:=by
 have⟨_,_,_,_,hg⟩:=zd k;rcases hg with⟨h1,h2⟩|⟨j,f,g,d,h1,h2,h3,i,l⟩;·simp[h2,h1,Region.wanted,d8]
 rw[l]at c⊢;simp only[ka]at c;have e:=h.E.2 d i;have hs:d<a.tmps.size:=by rw[h.E.1];exact i
 have m:a.tmps[d]?=some (a.tmps.getD d undef):=by rw[ah2,getElem?_pos a.tmps d hs];rfl
 simp only[Region.wanted,h1,yielded,h2,h3,aiS,m,d8];cases he:fr.af.get .ai8 (ah.cV d)with|bool q=>rw[he]at e;rw[e.pj];cases q<;>cases f<;>rfl|bQ=>rw[he]at c;simp[AV.bk]at c|_=>rw[he]at e;cases n:a.tmps.getD d undef<;>rw[n]at e<;>first|rfl|(simp[VR]at e;done)
end
theorem gY.Bn{fr:Fr}(a:gI J x fr g.roundOf C)(b:bm B N J O F)(h:H .none fr O)(k:List Item)(cs:List Frame):gY B N J x F g k cs (lone (g.atR C k) cs F) H:=⟨.none,fr,O,J,C,F,k,h,b9.refl J,a,b,dk.refl N F,rfl,Steps.refl _ _⟩
theorem IL{f:aJ}{args:List aJ}(a:wy D.op=true)(b:bK B x D=some (.call f args)):∃c g,D.op=.call c/\c.callee=.value g/\fj B x g=some f/\sD B x c.args=some args:=by
 unfold wy at a;split at a
 .rename_i c d;split at a;·simp_all[bK,aeX,abF,ahe,aa9]
  grind
 grind
theorem ze(a:bK B x D=some Q):∀c,D.op≠.defer c:=by grind[bK]
theorem Qs(M:rF P z x)(V:Bm P z x):Bm P z (x+1):=by
 intro R Q H w A fr l is aA K b a Y he B C k cs;cases l with
 |nil=>cases is with|cons i is=>trivial|nil=>exact .iN (.one stepR_region_end) (.Bn B C ⟨trivial,he⟩ k cs)
 |cons a2 l=>
  cases is with
  |nil=>trivial
  |cons i is=>
   have⟨⟨o,y,hx⟩,Y⟩:=Y;have⟨xd,xh,xr,X,_⟩:=zd hx;have hg:=IK B hx;have after:∀{p:aP}{H':ai}{w':World}{v:AV}{c:Value},b9 Q p->VR p v c->bm P R p H' w'->dk R w w'->Steps P (lone (b.atR a (.inRegion aA (i::is)::k)) cs w) (lone (b.atR (a.put o.dst c) (.inRegion aA is::k)) cs w')->Go.al.aA False da z x l {fr with af:=aQ fr.af a2.dst v} H' K->gY P R Q A w b k cs (lone (b.atR a (.inRegion aA (i::is)::k)) cs w) λj fr H=>(match j with|.none=>True|_=>False)/\K fr H:=by intro p H' w' v c h D r F hs J;have T:=(B.mono h).put D o.dst;rw[<-xd]at T;exact .wP h F (.iN hs (V Y J T r k cs))
   have t:∀c,(b.atR a (.inRegion aA (i::is)::k)).finish c=b.atR (a.put o.dst c) (.inRegion aA is::k):=by intro c;rw[Frame.finish_atR,y];rfl
   simp only[Go.al.aA,xh,xr,dF,dj,dQ,bg]at he;cases L:d8 fr.af a2.guard with
   |false=>
    rw[L]at he hg;simp only[abH,bF]at he;split at he;case isFalse=>grind
    rename_i Z;have hg:=hg Z;have dg:=stepR_op_skip (P:=P) (b:=b) (a:=a) (k:=k) (cs:=cs) (w:=w) (ops:=aA) (i:=i) (rest:=is) (by simp[y,hg]);rw[y]at dg;exact after (b9.refl Q) (VR.ai8 Q) C (dk.refl R w) (.one dg) he
   |true=>
    have hg:=hg (Ea L);rw[L]at he hg;simp only[bg]at he;have e:=stepGR_op (P:=P) (b:=b) (a:=a) (k:=k) (cs:=cs) (w:=w) (rest:=is) y hg;have plain:∀{v:AV}{H':ai},aH a2.op fr.af H=some (v,H')->Go.al.aA False da z x l {fr with af:=aQ fr.af a2.dst v} H' K->gY P R Q A w b k cs (lone (b.atR a (.inRegion aA (i::is)::k)) cs w) λj fr H=>(match j with|.none=>True|_=>False)/\K fr H:=by
     intro v H' s J;have n:bK P A o=some a2.op:=by
      rw[X]at s;rw[X];split at s;·simp[aH]at s
      rename_i G;rw[an G];cases I:bK P A o with|none=>rw[I]at s;simp[aH]at s|some q=>rfl
     rw[Oper.semAt_eq _ _ _ (ze n)]at e;have⟨c,w',u,p,h,D,r,F⟩:=zb (dl.mk B.E C) n s;refine after h D r F (.one (step_lone_go ?_)) J;rw[e,<-t];rcases u with S|⟨S,rfl⟩;·exact Bj S
     exact D6 S
    split at he
    .rename_i f args d;have m:bK P A o=some (.call f args)/\wy o.op=true:=by
      rw[X]at d;split at d;·cases d
      rename_i G;rw[d]at G;simp only[bJ.yR,aiU,ah3,Bool.not_eq_false]at G;refine⟨?_,G⟩;cases I:bK P A o with|none=>rw[I]at d;cases d|some q=>rw[I]at d;simp only[aii]at d;rw[d]
     have⟨c,g,ho,ag,h1,h2⟩:=IL m.2 m.1;rw[Oper.semAt_eq _ _ _ (ze m.1)]at e;have W:execOp a.eval o=mR (a.eval g) (c.args.map a.eval):=by simp only[execOp,ho,resolve,ag,mR]
     rw[W]at e;have N:be Q (args.map (gv fr.af)) (c.args.map a.eval).toList:=by rw[Array.toList_map];exact wF B.E C h2
     have⟨v,H',c',w',ax,ay,w1,F,⟨p,h,D,r,O⟩,hb,hs⟩:=M he (wE h1 B.E C) N C (b.atR a (.inRegion aA (i::is)::k)) cs (by trivial);refine after h D r O ?_ F;rw[<-t];exact .head (step_lone_go (by grind)) hs
    .rename_i it d;have n:bK P A o=some (.j6 it):=by
      rw[X]at d;split at d;·cases d
      cases I:bK P A o with|none=>rw[I]at d;cases d|some q=>rw[I]at d;simp only[aii]at d;rw[d]
     split at he;·rename_i aw a1 G;have⟨j,cd,hj,av,c,w',u,p,h,D,r,F⟩:=IE (dl.mk B.E C) n G;have he:=he j hj;simp only[av]at he;rw[Oper.semAt_eq _ _ _ (ze n)]at e;refine after h D r F (.one (step_lone_go ?_)) he;rw[e,<-t];rcases u with S|⟨S,rfl⟩;all_goals grind[Bj,D6]
     grind
    grind
def IM(B:Program)(ac:Nat->aX)(n:Nat):Prop:=
 ∀{e:cq}{c:aP}{H:ai}{w:World}{d:Nat}{fr:Fr}{l:List bD}{id:Nat}{aA:Array Oper}{K:Fr->ai->Prop}{b:Frame}{a:Act},uj B d aA true=some l->Go.al.aA False da ac n l fr H K->gI c d fr b.roundOf a->bm B e c H w->
  ∀(k:List Item)(cs:List Frame),gY B e c d w b k cs (lone (b.atR a (.code (.region id aA true)::k)) cs w) λj fr H=>(match j with|.none=>True|_=>False)/\K fr H
theorem wL.sN{x:Item}(c:∀id q,exitTo id (x::q)=exitTo id q){j:cC}{t:List Item}(hj:match j with|.none=>False|_=>True)(h:wL (x::q) j t):wL q j t:=by cases j with|none=>grind|exit id=>obtain⟨d,h1,h2⟩:=h;exact⟨d,h1,h2.trans (c id q)⟩|ret=>exact h
theorem Qt{l:List bD}(h:uj B x b false=some l):wO B x b (ahq b.size) l:=by
 simp only[uj,aeX,abF,Bool.not_false,bg,ahe,aa9]at h;obtain⟨d,h,rfl⟩:=h;have key:∀(bY c:List Oper)(l:List bD),b.toList=bY++c->c.mapM (pf B x b)=some l->wO B x b (List.range' bY.length c.length) l:=by
  intro bY c;induction c generalizing bY with
  |nil=>intro l _ h;simp at h;subst h;simp[wO]
  |cons o c g=>
   intro l f h;simp only[aiO,aeX,abF,ahe,aa9]at h;obtain⟨j,i,d,e,rfl⟩:=h;simp only[ahK,List.range'_succ,wO];refine⟨⟨o,?_,i⟩,?_⟩;·rw[<-Array.getElem?_toList,f];simp
   have:=g (bY++[o]) d (by rw[f];simp) e;simpa using this
 have:=key [] b.toList d rfl h;simp_all[List.range_eq_range']
theorem Qu{d:Code}:step B (lone (g.atR C (.code (.scope d)::q)) c F)=.next (lone (g.atR C (.code d:: .inScope d::q)) c F):=step_lone_go (by rfl)
theorem Qv{d:Code}:step B (lone (g.atR C (.inScope d::q)) c F)=.next (lone (g.atR C q) c F):=step_lone_go (by rfl)
theorem wQ(h:bm B N J O F){st:pW}{bU:cC}{g:List ah}{as bd:bw}{t:ah}(hl:O.get d=.loop st bU n M g as bd t)(hb:J d=some (x,W)):∃r,W=0/\F.heap[x]?=some (.loop r)/\nK st r.state/\nM bU r.pending/\J t=some (r.defers,0)/\r.params.toList.map ah.cV=g/\∃f,gP J f M r.tmps/\(∀p∈r.params.toList,p<f)/\eJ B f r.assign=some as/\eJ B f r.body=some bd:=by have⟨q,s,i,e,m,o,c⟩:=h.aE (i:=d) (by grind);rw[hb]at e;injection e with e;injection e with j l;subst j;subst l;rw[hl]at c;cases i<;>simp only[OR]at c;grind
theorem zf{r:Loop}(h:F.heap[x]?=some (.loop r)):(Instr.getLoop x).run B F=.ok r F:=by simp[h,Instr.getLoop,Sem.run_bind,wK,Result.andThen_ok,Sem.run_pure]
theorem Eb(h:bm B N J O F){st:pW}{bU:cC}{f:List ah}{as bd:bw}{q:ah}(hl:O.get d=.loop st bU W M f as bd q)(hb:J d=some (x,0)){r:Loop}(i:F.heap[x]?=some (.loop r)){st':pW}{pend':cC}{s':LoopState}{p':Option Code}(h1:nK st' s')(h2:nM pend' p')(e:Nat):(setObj x (.loop {r with state:=s',pending:=p'})).run B F=.ok () {F with heap:=F.heap.setIfInBounds x (.loop {r with state:=s',pending:=p'})}/\bm B N J (O.set d (.loop st' pend' e M f as bd q)) {F with heap:=F.heap.setIfInBounds x (.loop {r with state:=s',pending:=p'})}/\dk N F {F with heap:=F.heap.setIfInBounds x (.loop {r with state:=s',pending:=p'})}:=by
 have⟨n,_,c,o,p,j,l,m⟩:=wQ h hl hb;rw[i]at c;injection c with c;injection c with c;subst c;have g:O.get d≠.none:=by rw[hl];simp
 have hu:=h.pi (i:=d) (o':=.loop st' pend' e M f as bd q) (ob':=.loop {r with state:=s',pending:=p'}) g (by rw[hl];rfl) hb rfl (by simp only[OR];exact⟨trivial,h1,h2,j,l,m⟩) (by simp[eQ]) (w':={F with heap:=F.heap.setIfInBounds x (.loop {r with state:=s',pending:=p'})}) rfl rfl rfl rfl;rw[hl]at hu;exact⟨wH F i (λ_ _ _=>by simp) _,hu.1,hu.2⟩
theorem Qw(T:rF B z W){fr:Fr}{of:aJ}{n:Array Tmp}{as bd:Code}{u w:bw}(hf:fj B x S=some of)(bb:eJ B x as=some u)(bc:eJ B x bd=some w)(bv:∀p∈n.toList,p<x)(he:exec False da z (W+1) (.rangeFunc of (n.toList.map ah.cV) u w) fr O H)(G:gI J x fr g.roundOf a)(Y:bm B N J O F)(cn:List Item)(cs:List Frame):gY B N J x F g cn cs (lone (g.atR a (.code (.rangeFunc S n as bd)::cn)) cs F) H:=by
 have C:∀{b:aP}{H1:ai}{f:World}{fr1:Fr}{mark:List Deferred}{d:ah}{bd':Nat},b9 J b->dk N F f->bm B N b H1 f->gI b x fr1 g.roundOf {a with defers:=mark++a.defers}->b d=some (bd',0)->fr1.af=fr.af->(Instr.enterLoop g.fn a.tmps n as bd g.roundOf).run B F=.ok (f.heap.size,mark) {f with heap:=f.heap.push (.loop {state:=.ready,pending:=none,fn:=g.fn,tmps:=a.tmps,params:=n,assign:=as,body:=bd,defers:=bd'})}->(fC False da z W (gv fr1.af of) [.yield H1.next] (H1.new (.loop .ready .none 0 fr1.af (n.toList.map ah.cV) u w d)) λ_ H'=>match H'.get H1.next with
  |.loop st bU fn af n as bd d=>match st with|.busy=>False|_=>H bU fr1 (H'.set H1.next (.loop .exhausted bU fn af n as bd d))
  |_=>False)->gY B N J x F g cn cs (lone (g.atR a (.code (.rangeFunc S n as bd)::cn)) cs F) H:=by
  intro b H1 f fr1 mark d bd' o b0 M ag hd a1 a2 b3;have a6:∀j c y,b j=some (c,y)->c=f.heap.size->b.k f.heap.size=(0,0):=λj c y e hc=>by have:=M.ef j c y e;omega
  have q:b9 b (b.add H1.next f.heap.size 0 (0,0)):=aP.qi _ _ _ (M.du _ (aeE _)).2 a6;obtain⟨I,q2,q3⟩:=M.alloc (o:=.loop .ready .none 0 fr1.af (n.toList.map ah.cV) u w d) (ob:=.loop {state:=.ready,pending:=none,fn:=g.fn,tmps:=a.tmps,params:=n,assign:=as,body:=bd,defers:=bd'}) (0,0) (by simp[eQ]) aC rfl (by simp only[OR];exact⟨trivial,by simp[nK],by simp[nM],(q _ _ hd).1,by trivial,x,by rw[a1];exact(G.E.mono o).mono q,bv,bb,bc⟩);have b4:VR (b.add H1.next f.heap.size 0 (0,0)) (gv fr1.af of) (a.eval S):=wE (a:={a with defers:=mark++a.defers}) hf (ag.E.mono I) q2;obtain⟨v,H',c,w',b6,b7,w2,hK,⟨b',i,hv,av,V⟩,hb,hs⟩:=T b3 b4 (args:=[.yield H1.next]) (argv:= #[.func (.yield f.heap.size) #[] #[]]) (by simp only[be,VR];exact⟨⟨aP.eA ..,by trivial,by trivial⟩,trivial⟩) q2 (g.atR {a with defers:=mark++a.defers} (.inRangeFunc f.heap.size::cn)) cs (by simp[qk,Frame.atR]);rw[finish_atR_inRangeFunc]at hs;split at hK
  .rename_i st bU fn af aw ax ay d' hl;have s:=(i _ _ (aP.eA b H1.next f.heap.size 0 (0,0))).1;have⟨r,_,t,g1,L,_⟩:=wQ av hl s;have ca:st≠.busy/\H bU fr1 (H'.set H1.next (.loop .exhausted bU fn af aw ax ay d')):=by cases st<;>first|exact hK.elim|exact⟨aC,hK⟩
   have⟨s1,s2,s3⟩:=Eb av hl s t (st':=.exhausted) (s':=.exhausted) (pend':=bU) (p':=r.pending) (by simp[nK]) L fn;have a8:(Instr.endLoop f.heap.size).run B w'=.ok r.pending {w' with heap:=w'.heap.setIfInBounds f.heap.size (.loop {r with state:=.exhausted,pending:=r.pending})}:=by
    have dg:(r.state==.busy)=false:=by cases hs:r.state<;>rw[hs]at g1<;>cases st<;>simp_all[nK]
    simp only[Instr.endLoop,Sem.run_bind,zf t,Result.andThen_ok,dg,abH,bF,Sem.run_pure];have:(setObj f.heap.size (.loop {r with state:=.exhausted})).run B w'=_:=s1;rw[this];rfl
   have A:step B (lone (g.atR a (.code (.rangeFunc S n as bd)::cn)) cs F)=.next (lone b6 b7 w2):=by
    refine step_lone_go ?_;rw[<-hb];have Q:=Frame.eval_atR g {a with defers:=mark++a.defers} (.inRangeFunc f.heap.size::cn);simp only[Frame.atR]at Q;have a':(({a with defers:=mark++a.defers}:Act)).eval=a.eval:=by funext cp;cases cp<;>rfl
    rw[a']at Q;have ba:(do let d<-resolve a.eval {callee:=.value S,args:= #[.const (.func (.yield f.heap.size) #[] #[])],argTypes:= #[]} 0;invoke d.target d.args)=mR (a.eval S) #[.func (.yield f.heap.size) #[] #[]]:=by simp[mR,resolve,Act.eval]
    simp only[stepG,stepG.exec,Frame.atR,Sem.runT_eq,a2,GStep.bare_after,Q,ba]
   have X:wL cn bU ((r.pending.map Item.code).toList++cn):=by cases hp:r.pending with|none=>rw[hp]at L;cases bU<;>simp_all[nM,wL]|some cc=>rw[hp]at L;cases bU with|none=>simp[nM]at L|exit id=>cases cc<;>simp only[nM]at L;subst L;exact⟨cn,rfl,rfl⟩|ret=>cases cc<;>simp only[nM]at L;exact⟨cn,rfl⟩
   refine⟨bU,fr1,_,b',{a with defers:=mark++a.defers},_,_,ca.2,o.trans (I.trans i),(ag.mono I).mono i,s2,b0.trans (q3.trans (V.trans s3)),X,.head A (hs.trans (.one (stepR_endRangeFunc a8)))⟩
  exact hK.elim
 simp only[exec]at he;cases t:g.roundOf with
 |none=>
  have m:fr.bx=none:=by have:=G.R;rw[t]at this;cases h:fr.bx<;>rw[h]at this<;>simp_all[mP]
  rw[m]at he;simp only at he;have o:b9 J (J.add O.next F.heap.size 0 (0,0)):=aP.qi _ _ _ (Y.du _ (aeE _)).2 (λj c y e hc=>by have:=Y.ef j c y e;omega);have⟨I,q2,q3⟩:=Y.alloc (o:=.deferred false) (ob:=.deferred (some [])) (0,0) (by simp[eQ]) aC rfl (by simp[OR]);refine C (fr1:=⟨fr.af,O.next::fr.bA,none⟩) (mark:=[{target:=.collected F.heap.size,args:= #[]}]) (d:=O.next) (bd':=F.heap.size) I q3 q2 ⟨G.E.mono I,?_,?_⟩ (aP.eA ..) rfl ?_ he;·simp only[ah4,aie,kS];exact⟨⟨F.heap.size,aP.eA ..,rfl⟩,G.D.mono I⟩
  .simp only[t,mP]
  simp only[t,Instr.enterLoop,Sem.run_bind,run_newObj,Result.andThen_ok,Sem.run_pure]
 |some l=>
  obtain⟨Z,m⟩:∃Z,fr.bx=some Z:=by have:=G.R;rw[t]at this;cases h:fr.bx with|none=>rw[h]at this;simp[mP]at this|some Z=>exact⟨Z,rfl⟩
  have cd:J Z=some (l,0):=by have:=G.R;rw[t,m]at this;exact this
  rw[m]at he;simp only at he;split at he;·rename_i st bU fn af aw ax ay d' hl;have⟨r,_,cf,_,_,g3,_⟩:=wQ Y hl cd;refine C (mark:=[]) (d:=d') (bd':=r.defers) (b9.refl J) (dk.refl N F) Y (by simpa using G) g3 rfl ?_ he;simp[Instr.enterLoop,t,zf cf]
  exact he.elim
theorem Steps.Qx{m b a:Machine}(h:Steps B m a)(hs:step B m=.next b)(d:a≠m):Steps B b a:=by have⟨n,c⟩:=h;cases n with|zero=>simp_all[runN,Stepped.next.injEq,absurd]|succ n=>simp only[runN,hs]at c;exact⟨n,c⟩
theorem Qy(ht:lI B z)(n:wN B z x)(N:Bm B z x)(J:IM B z x)(L:rF B z x):wN B z (x+1):=by
 intro Wr Q H w nt fr c cc K b a d he A C k cs;induction cc generalizing k c with
 |skip=>simp only[eJ,aa9]at d;subst d;simp only[exec]at he;exact .iN (.one stepR_skip) (.Bn A C he k cs)
 |label l=>simp only[eJ,aa9]at d;subst d;simp only[exec]at he;exact .iN (.one stepR_label) (.Bn A C he k cs)
 |region id aA O=>
  simp only[eJ,ae2]at d;obtain⟨l,hl,rfl⟩:=d;simp only[exec]at he;cases O with
  |false=>refine .iN (.one stepR_region) ((N (Qt hl) he A C k cs).mono ?_);rintro j fr H⟨h1,h2⟩;cases j<;>first|exact h2|exact h1.elim
  |true=>refine(J hl he A C k cs).mono ?_;rintro j fr H⟨h1,h2⟩;cases j<;>first|exact h2|exact h1.elim
 |seq b3 y Y Z=>
  simp only[eJ]at d;split at d
  .rename_i W ba G R;injection d with d;split at d
   .rename_i t ag;subst d;simp only[exec]at he;split at he
    .rename_i g hg;split at he;·rename_i a' u av;refine(ht.eH t g hg G R (Ov.O' _ _ ag).symm av A C k cs).mono ?_;rintro j fr1 H1⟨rfl,rfl,rfl⟩;exact he
     exact he.elim
    exact he.elim
   subst d;simp only[exec]at he;have⟨j,o,u,q,D,F,t,h1,h2,h3,r,s,v,I⟩:=n G he A C (.code y::k) cs;refine .iN (.one stepR_seq) (.iN I ?_);cases j with|none=>rw[show t=.code y::k from v];exact .wP h2 s (n R h1 h3 r k cs)|exit id=>exact⟨.exit id,o,u,q,D,F,t,h1,h2,h3,r,s,v.sN (λ_ _=>rfl) trivial,Steps.refl _ _⟩|ret=>exact⟨.ret,o,u,q,D,F,t,h1,h2,h3,r,s,v.sN (λ_ _=>rfl) trivial,Steps.refl _ _⟩
  cases d
 |cond c0 b3 y Y Z=>
  simp only[eJ]at d;split at d
  .rename_i oc W ba h0 G R;injection d with d;subst d;simp only[exec]at he;have S:=wE h0 A.E C;split at he;·rename_i h;rw[h]at S;exact .iN (.one (stepR_cond S.pj)) (n G he A C k cs)
   .rename_i h;rw[h]at S;exact .iN (.one (stepR_cond S.pj)) (n R he A C k cs)
   exact he.elim
  cases d
 |block id b3 X=>
  simp only[eJ,ae2]at d;obtain⟨W,G,rfl⟩:=d;simp only[exec]at he;have⟨j,o,u,q,D,F,t,h1,h2,h3,r,s,v,I⟩:=n G he A C (.inBlock id::k) cs;refine .iN (.one stepR_block) (.iN I ?_);cases j with
  |none=>rw[show t=.inBlock id::k from v];exact .iN (.one stepR_inBlock) ⟨.none,o,u,q,D,F,k,h1,h2,h3,r,s,rfl,Steps.refl _ _⟩
  |exit i=>
   obtain⟨T,rfl,M⟩:=v;simp only at h1;split at h1
   .rename_i hi;have hi:=ahn hi;subst hi;have:exitTo i T=some k:=by rw[M];simp[exitTo]
    exact .iN (.one (stepR_exit this)) ⟨.none,o,u,q,D,F,k,h1,h2,h3,r,s,rfl,Steps.refl _ _⟩
   rename_i hi;have aw:(id==i)=false:=by have:¬id=i:=λe=>hi (by subst e;exact ait _);simpa using this
   exact⟨.exit i,o,u,q,D,F,_,h1,h2,h3,r,s,⟨T,rfl,by rw[M];simp[exitTo,aw]⟩,Steps.refl _ _⟩
  |ret=>exact⟨.ret,o,u,q,D,F,t,h1,h2,h3,r,s,v,Steps.refl _ _⟩
 |loop b3 X=>have ax:=d;simp only[eJ,ae2]at d;obtain⟨W,G,rfl⟩:=d;simp only[exec]at he;have⟨j,o,u,q,D,F,t,h1,h2,h3,r,s,v,I⟩:=n G he A C (.inLoop b3::k) cs;refine .iN (.one stepR_loop) (.iN I ?_);cases j with|none=>rw[show t=.inLoop b3::k from v];have⟨j2,ay,H2,a1,bb,w2,t2,e1,e2,e3,e4,e5,V,e7⟩:=n ax h1 h3 r k cs;have hs:=Steps.Qx e7 stepR_loop (by intro e;have:t2=.code (.loop b3)::k:=congrArg (λm:Machine=>(m.gs.getD 0 (default:Goroutine)).frame.todo) e;cases j2 with|none=>have h:=V;rw[show t2=k from h]at this;have:=congrArg List.length this;simp at this|exit id=>obtain⟨T,h,_⟩:=V;rw[h]at this;cases this|ret=>obtain⟨T,h⟩:=V;rw[h]at this;cases this);exact⟨j2,ay,H2,a1,bb,w2,t2,e1,h2.trans e2,e3,e4,s.trans e5,V,.head stepR_inLoop hs⟩|exit id=>exact⟨.exit id,o,u,q,D,F,t,h1,h2,h3,r,s,v.sN (λ_ _=>rfl) trivial,Steps.refl _ _⟩|ret=>exact⟨.ret,o,u,q,D,F,t,h1,h2,h3,r,s,v.sN (λ_ _=>rfl) trivial,Steps.refl _ _⟩
 |scope b3 X=>simp only[eJ]at d;have⟨j,o,u,q,D,F,t,h1,h2,h3,r,s,v,I⟩:=X d he (.inScope b3::k);refine .iN (.one Qu) (.iN I ?_);cases j with|none=>rw[show t=.inScope b3::k from v];exact .iN (.one Qv) ⟨.none,o,u,q,D,F,k,h1,h2,h3,r,s,rfl,Steps.refl _ _⟩|exit id=>exact⟨.exit id,o,u,q,D,F,t,h1,h2,h3,r,s,v.sN (λ_ _=>rfl) trivial,Steps.refl _ _⟩|ret=>exact⟨.ret,o,u,q,D,F,t,h1,h2,h3,r,s,v.sN (λ_ _=>rfl) trivial,Steps.refl _ _⟩
 |rangeFunc f ps as bd=>
  simp only[eJ]at d;split at d
  .rename_i of bc bv h0 a2 a6;split at d;·rename_i a8;injection d with d;subst d;exact Qw L h0 a2 a6 (λp hp=>by have:=aiv.1 a8 p hp;simpa using this) he A C k cs
   cases d
  cases d
 |exit id=>simp only[eJ,aa9]at d;subst d;simp only[exec]at he;exact⟨.exit id,fr,H,Q,a,w,_,he,b9.refl Q,A,C,dk.refl Wr w,⟨k,rfl,rfl⟩,Steps.refl _ _⟩
 |ret=>simp only[eJ,aa9]at d;subst d;simp only[exec]at he;exact⟨.ret,fr,H,Q,a,w,_,he,b9.refl Q,A,C,dk.refl Wr w,⟨k,rfl⟩,Steps.refl _ _⟩
 |goto l=>simp[eJ]at d
 |refuse b0=>simp[eJ]at d
theorem Qz(ht:lI B z)(k:wN B z x):rF B z (x+1):=by
 intro Wr ρ H w fa args K fv e he hf ha hI fr cs hat;simp only[fC]at he;split at he
 .rename_i f first i;obtain⟨d0,y,hx,hy,rfl⟩:=hf.A8;have eC:be ρ (first++args++i) ((d0++e++y).toList):=by simp only[Array.toList_append];exact be.append (be.append hx ha) hy
  have M:mR (.func (.func f) d0 y) e=callFunc f (d0++e++y):=by simp[mR,Deferred.ofValue,invoke]
  split at he;·exact he.elim
  .exact he.elim
  .rename_i g hg;split at he;·rename_i v H' b0;obtain⟨v',c9,c,w',ag,b3,X,⟨rfl,rfl⟩,hp,hb,hs⟩:=ht.ji f g hg b0 eC hI fr cs hat;exact⟨_,_,c,w',ag,b3,X,he,hp,hb,hs⟩
   exact he.elim
  rename_i nt rs body hg;obtain⟨fn,Q,av,T⟩:=ht.code f nt rs body hg;split at he;case isFalse=>exact he.elim
  rename_i R;have R:=aht R;simp only[yU,aeX,abF,ahe,aa9,aX.code.injEq]at av;obtain⟨cc,aw,cy,V,b4,b6,A,Y,e3⟩:=av;subst A;subst Y;subst e3;have o:(callFunc f (d0++e++y)).run B w=.ok (.enter f (d0++e++y)) w:=by simp only[callFunc,Sem.run_bind,run_program,Result.andThen_ok,Q,T,aw,Option.isNone_some,abH,bF,Sem.run_pure]
  let b:Frame:={(default:Frame)with fn:=f,kind:=.normal};let a:Act:={tmps:=(d0++e++y)++Array.replicate (fn.ntmps - (d0++e++y).size) undef,defers:=[]};have C:Frame.enter B f (d0++e++y) .normal=b.atR a [.code cc]:=by simp only[Frame.enter,Frame.atR,Q,aw,b,a,ahQ,aii,aiS];rfl
  have hF:gI ρ fn.ntmps ⟨jL (first++args++i) .xH .ch,[],none⟩ b.roundOf a:=⟨IH eC R,trivial,trivial⟩;obtain⟨j,ax,H',b7,bv,w',t,h1,h2,h3,h4,h5,h6,h7⟩:=k V he hF hI [] (fr::cs);have a':∃O:Frame,O={b.atR bv O.todo with mode:=.returning}/\step B (lone (b.atR bv t) (fr::cs) w')=.next (lone O (fr::cs) w'):=by cases j with|none=>rw[show t=[]from h6];exact⟨_,rfl,stepR_end rfl⟩|exit id=>exact h1.elim|ret=>obtain⟨k0,rfl⟩:=h6;exact⟨_,rfl,stepR_ret rfl⟩
  obtain⟨O,m,dg⟩:=a';have n:(match iI H' ax.bA with
   |some H=>match fH ax.af H b4 with|some l=>K (gC l) H|none=>False
   |none=>False):=by cases j with|none=>exact h1|exit id=>exact h1.elim|ret=>exact h1
  split at n
  .rename_i H2 hm;split at n
   .rename_i l hl;have ba:O={O with defers:=bv.defers}:=by rw[m];rfl
    obtain⟨L,s1,s2,s3⟩:=D8 h4 h3.D hm O (fr::cs) (by rw[m]);rw[<-ba]at s1;obtain⟨c,hc,hv⟩:=IJ s2 h3.E b6 hl;refine⟨gC l,H2,c,L,_,_,_,n,⟨b7,h2,hv,s2,h5.trans s3⟩,IF hat o,?_⟩;rw[C];refine h7.trans (.head dg (s1.trans (.one ?_)));refine step_leave_returned ⟨by rw[m],rfl,by rw[m];rfl,fn,by rw[m];exact Q,?_⟩;rw[m];exact hc
   exact n.elim
  exact n.elim
 .rename_i l;obtain⟨bl,S,rfl⟩:=hf.A9;have M:mR (.func (.yield bl) #[] #[]) e=Instr.yield bl e:=by simp[mR,Deferred.ofValue,invoke]
  rw[M];split at he
  .rename_i st bU c' af ps as bd d hl;obtain⟨r,_,hr,g1,g2,g3,g4,nt,g5,g6,g7,g8⟩:=wQ hI hl S;split at he
   .split at he;case isFalse=>exact he.elim
    rename_i q;have b':e.size=r.params.size:=by have A:=be.length ha;rw[<-g4]at q;simp at A q;omega
    have o:(Instr.yield bl e).run B w=.ok (.round bl r.fn ((r.params.zip e).foldl (λtmps(t,a)=>tmps.setIfInBounds t a) r.tmps) r.assign r.body) w:=by simp only[Instr.yield,Sem.run_bind,zf hr,Result.andThen_ok,b',ne_eq,not_true_eq_false,bF,Sem.run_pure]
    let b:Frame:={(default:Frame)with fn:=r.fn,kind:=.normal,roundOf:=some bl};let a:Act:={tmps:=(r.params.zip e).foldl (λtmps(t,a)=>tmps.setIfInBounds t a) r.tmps,defers:=[]};have F:Frame.round bl r.fn a.tmps r.assign r.body .normal=b.atR a [.code r.assign,.beginRound,.code r.body]:=rfl;have hE:gP ρ nt (lZ ps args af) a.tmps:=by
     have:=II (ps:=r.params.toList) g5 ha (by rw[q,<-g4,ahs]);rw[g4]at this;have Y:a.tmps=(r.params.toList.zip e.toList).foldl (λtmps(p:Tmp×Value)=>tmps.setIfInBounds p.1 p.2) r.tmps:=by show(r.params.zip e).foldl _ _=_;rw[<-Array.foldl_toList,Array.toList_zip]
     rw[Y];exact this
    have hF:gI ρ nt ⟨lZ ps args af,[],some l⟩ b.roundOf a:=⟨hE,trivial,S⟩;obtain⟨j,ag,H1,dm,dz,X,t,h1,h2,h3,h4,h5,h6,h7⟩:=k g7 he hF hI [.beginRound,.code r.body] (fr::cs);split at h1
    .rename_i W ca c8 dr nO ds d1 ay;rw[show t=[.beginRound,.code r.body]from h6]at h7;have s:=(h2 _ _ S).1;obtain⟨Z,_,a1,q1,q2,q3,q4,dv,q5,q6,q7,q8⟩:=wQ h4 ay s;obtain⟨s1,s2,s3⟩:=Eb h4 ay s a1 (st':=.busy) (s':=.busy) (pend':=W) (p':=Z.pending) (by simp[nK]) q2 ca;have G:Z.state=.ready:=by cases hs:Z.state<;>rw[hs]at q1<;>simp_all[nK]
     have I:(Instr.beginRound bl).run B X=.ok () {X with heap:=X.heap.setIfInBounds bl (.loop {Z with state:=.busy,pending:=Z.pending})}:=by simp only[Instr.beginRound,Sem.run_bind,zf a1,Result.andThen_ok];have:(setObj bl (.loop {Z with state:=.busy})).run B X=_:=s1;rw[this];simp only[Result.andThen_ok,G,Sem.run_pure]
     obtain⟨j2,dx,H2,cd,cR,L,t2,A,Y,e3,e4,e5,e6,e7⟩:=k g8 h1 h3 s2 [] (fr::cs);have J:Steps B (lone (Frame.round bl r.fn a.tmps r.assign r.body .normal) (fr::cs) w) (lone (b.atR cR t2) (fr::cs) L):=by rw[F];exact h7.trans (.head (stepR_beginRound rfl I) e7)
     split at A
     .rename_i dy cE a2 bb cf cn cp d2 a6;have N:=(Y _ _ s).1;have⟨r2,_,a8,z1,z2,z3,z4,z5⟩:=wQ e4 a6 N;have aq:∀(j:cC)(u:Option Code)(st':pW)(s':LoopState),nK st' s'->nM j u->s'=(if u.isNone then .ready else .done)->K (.bool u.isNone) (H2.set l (.loop st' j a2 bb cf cn cp d2))->(∀{v:Value}{w':World},(Instr.endRound bl u).run B L=.ok v w'->step B (lone (b.atR cR t2) (fr::cs) L)=.next (lone (fr.finish v) cs w'))->wM B Wr ρ w (Instr.yield bl e) fr cs K:=by
       intro j u st' s' y1 y2 y3 y4 y5;have⟨u1,u2,u3⟩:=Eb e4 a6 N a8 (st':=st') (s':=s') (pend':=j) (p':=u) y1 y2 a2;have bc:(Instr.endRound bl u).run B L=.ok (.bool u.isNone) {L with heap:=L.heap.setIfInBounds bl (.loop {r2 with state:=s',pending:=u})}:=by simp only[Instr.endRound,Sem.run_bind,zf a8,Result.andThen_ok,<-y3,u1,Sem.run_pure]
       exact⟨_,_,.bool u.isNone,_,_,_,_,y4,⟨cd,h2.trans Y,by simp[VR],u2,h5.trans (s3.trans (e5.trans u3))⟩,Qq hat o,J.trans (.one (y5 bc))⟩
      cases j2 with|none=>have cv:t2=[]:=e6;subst cv;exact aq .none none .ready .ready (by simp[nK]) (by simp[nM]) rfl A (λh=>stepR_round_end rfl rfl h)|exit id=>obtain⟨k0,rfl,cx⟩:=e6;exact aq (.exit id) (some (.exit id)) .done .done (by simp[nK]) (by simp[nM]) rfl A (λh=>stepR_round_exit rfl rfl cx h)|ret=>obtain⟨k0,rfl⟩:=e6;exact aq .ret (some .ret) .done .done (by simp[nK]) (by simp[nM]) rfl A (λh=>stepR_round_ret rfl rfl h)
     exact A.elim
    exact h1.elim
   exact he.elim
  exact he.elim
 exact he.elim
section
variable{env':az AV}
theorem mS:∀{x:aJ},(∀p∈x.co,M.get .ai8 p=env'.get .ai8 p)->gv M x=gv env' x|.t p,h=>h p (by simp[aJ.co])|.c _,_=>rfl
theorem Bo:∀{l:List aJ},(∀p∈l.flatMap aJ.co,M.get .ai8 p=env'.get .ai8 p)->l.map (gv M)=l.map (gv env')|[],_=>rfl|x::l,h=>by simp only[aim,ac6]at h;simp only[ahk,mS (x:=x) λp a=>h p (.inl a),Bo (l:=l) λp a=>h p (.inr a)]
theorem Ec{x:Option aJ}(h:∀p∈AZ x,M.get .ai8 p=env'.get .ai8 p)(d y:Nat):jA M x d y=jA env' x d y:=by cases x with|none=>rfl|some x=>simp only[jA,mS (x:=x) h]
theorem Ed:∀{a:List (Nat×Nat×aJ)},(∀p∈a.flatMap (λp=>p.2.2.co),M.get .ai8 p=env'.get .ai8 p)->∀l,lE M l a=lE env' l a
 |[],_,_=>rfl
 |(off,size,x)::a,h,l=>by
  simp only[aim,ac6]at h;simp only[lE,mS (x:=x) λp b=>h p (.inl b)];split
  .split;·exact Ed (λp b=>h p (.inr b)) _
   rfl
  rfl
theorem Ee(h:∀p∈Q.co,M.get .ai8 p=env'.get .ai8 p)(H:ai):aH Q M H=aH Q env' H:=by
 cases Q<;>simp only[bJ.co,ac6]at h;case build i j=>grind[aH,Ed]
 case buildSlice e n i j=>grind[aH,Ed]
 case k6 f a b=>grind[aH,Bo]
 case oY b l=>grind[aH,Bo]
 case gV e s x a b c=>simp only[aH,mS (x:=x) λp g=>h p (.inl g),Ec (x:=a) λp g=>h p (.inr (.inl g)),Ec (x:=b) λp g=>h p (.inr (.inr (.inl g))),Ec (x:=c) λp g=>h p (.inr (.inr (.inr g)))]
 case pick c a b=>grind[aH,mS]
 case jK d m k L=>simp only[aH,mS (x:=m) λp g=>h p (.inl g),mS (x:=k) λp g=>h p (.inr (.inl g)),mS (x:=L) λp g=>h p (.inr (.inr g))]
 all_goals first|rfl|(simp only[aH,mS h];done)|(rename_i x y;simp only[aH,mS (x:=x) λp g=>h p (.inl g),mS (x:=y) λp g=>h p (.inr g)];done)
theorem QA(g:Q.plain=true)(he:aH Q M V=some (L,H2)):H2=V/\∀O,aH Q M O=some (L,O):=by
 cases Q<;>(try(simp[bJ.plain]at g;done));case gV e s x lo hi h=>
  cases lo with
  |some q=>simp[bJ.plain]at g
  |none=>
   simp only[aH,Option.isNone_none,Bool.or_true,Bool.true_or,bg]at he⊢;split at he;·simp only[aeX,abF,aa9,afm]at he;obtain⟨m,d,f,b,l,c,rfl,rfl⟩:=he;exact⟨rfl,λO=>by simp[d,b,c]⟩
   .simp only[aeX,abF,aa9,afm]at he;obtain⟨m,d,f,b,l,c,rfl,rfl⟩:=he;exact⟨rfl,λO=>by simp[d,b,c]⟩
   cases he
 case nH x a=>
  simp only[aH]at he⊢;split at he;·rw[ae2]at he;have⟨q,h1,h2⟩:=he;rw[afm]at h2;obtain⟨rfl,rfl⟩:=h2;exact⟨rfl,λO=>by rw[h1];rfl⟩
  cases he
 all_goals simp only[aH]at he⊢;first|(simp only[aa9,afm]at he;obtain⟨rfl,rfl⟩:=he;exact⟨rfl,λ_=>rfl⟩)|(simp only[ae2,afm]at he;obtain⟨a,h1,rfl,rfl⟩:=he;exact⟨rfl,λ_=>by simp[h1]⟩)|(split at he<;>first|(cases he;done)|(simp only[aa9,afm]at he;obtain⟨rfl,rfl⟩:=he;exact⟨rfl,λ_=>rfl⟩)|(simp only[ae2,afm]at he;obtain⟨a,h1,rfl,rfl⟩:=he;exact⟨rfl,λ_=>by simp[h1]⟩)|(simp only[aeX,abF,aa9,afm]at he;obtain⟨m,d,f,b,l,c,rfl,rfl⟩:=he;exact⟨rfl,λO=>by simp[d,b,c]⟩)|(simp only[aeX,abF,aa9,afm]at he;obtain⟨f,b,l,c,rfl,rfl⟩:=he;exact⟨rfl,λO=>by simp[b,c]⟩)|(split at he<;>first|(cases he;done)|(simp only[aa9,afm]at he;obtain⟨rfl,rfl⟩:=he;exact⟨rfl,λ_=>by simp[*]⟩)|(simp only[ae2,afm]at he;obtain⟨a,h1,rfl,rfl⟩:=he;exact⟨rfl,λ_=>by simp[*]⟩)|(split at he<;>first|(cases he;done)|(simp only[aa9,afm]at he;obtain⟨rfl,rfl⟩:=he;exact⟨rfl,λ_=>by simp[*]⟩))))
def bJ.target(M:az AV):bJ->Option ah
 |.aW a|.ee _ a|.uc a|.oX a=>gX (gv M a)
 |.lookup _ _ _ m _=>gX (gv M m)
 |.gV _ _ x _ _ b=>match gv M x with
  |.slice id _ _ _ false=>if b.isSome then none else some id
  |_=>none
 |_=>none
theorem IN(h:dE O d x W=some X):O.get d≠.none/\∀V,V.get d=O.get d->dE V d x W=some X:=by grind[dE]
theorem IP(h:gW O L x Z=some r):∃id off,L=.aD id off/\O.get id≠.none/\∀V,V.get id=O.get id->gW V L x Z=some r:=by
 unfold gW at h⊢;split at h
 .rename_i id off;split at h;·rename_i l hl;have⟨h1,h2⟩:=IN hl;grind
  grind
 grind
theorem IQ(p:Q.iZ=true)(he:aH Q M V=some (L,H2)):H2=V/\(∀j,Q.target M=some j->V.get j≠.none)/\∀O,(∀j,Q.target M=some j->O.get j=V.get j)->aH Q M O=some (L,O):=by
 cases Q<;>(try(simp[bJ.iZ]at p;done));case aW a=>simp only[aH,ae2,afm]at he⊢;obtain⟨q,h1,rfl,rfl⟩:=he;have⟨id,off,r,h2,h3⟩:=IP h1;refine⟨rfl,λj hj=>?_,λO hj=>⟨q,h3 O (hj id ?_),by rfl,aC⟩⟩;all_goals simp_all[bJ.target,gX,aa9]
 case ee n a=>simp only[aH,ae2,afm]at he⊢;obtain⟨q,h1,rfl,rfl⟩:=he;have⟨id,off,r,h2,h3⟩:=IP h1;refine⟨rfl,λj hj=>?_,λO hj=>⟨q,h3 O (hj id ?_),by rfl,aC⟩⟩;all_goals simp_all[bJ.target,gX,aa9]
 case uc x=>
  simp only[aH]at he⊢;split at he;·rename_i b;obtain⟨rfl,rfl⟩:=he;refine⟨rfl,λj hj=>?_,λO hj=>by rfl⟩;simp_all[bJ.target,gX]
  .rename_i id b;split at he;·rename_i hi;obtain⟨rfl,rfl⟩:=he;refine⟨rfl,λj hj=>?_,λO hj=>?_⟩;all_goals simp_all[bJ.target,gX,aa9]
   .rename_i hi;obtain⟨rfl,rfl⟩:=he;refine⟨rfl,λj hj=>?_,λO hj=>?_⟩;all_goals simp_all[bJ.target,gX,aa9]
   grind
  grind
 case oX x=>
  simp only[aH]at he⊢;split at he;·rename_i b;obtain⟨rfl,rfl⟩:=he;refine⟨rfl,λj hj=>?_,λO hj=>by rfl⟩;simp_all[bJ.target,gX]
  .rename_i id off len c e b;split at he;·rename_i l hl;simp only[ae2,afm]at he;obtain⟨q,h1,rfl,rfl⟩:=he;have⟨h2,h3⟩:=IN hl;refine⟨rfl,λj hj=>?_,λO hj=>?_⟩;all_goals simp_all[bJ.target,gX,aa9]
   grind
  grind
 case lookup d z ok m k=>
  simp only[aH]at he⊢;split at he;·cases he
  rename_i f;split at he;·rename_i b;simp only[aa9,afm]at he;obtain⟨rfl,rfl⟩:=he;refine⟨rfl,λj hj=>?_,λO hj=>by simp[b,f]⟩;simp[bJ.target,b,gX]at hj
  .rename_i id b;have i:bJ.target M (.lookup d z ok m k)=some id:=by simp only[bJ.target,b,gX]
   split at he;all_goals(try(cases he;done))
   all_goals
    rename_i hi;refine⟨?_,λj hj=>?_,λO hj=>?_⟩;·split at he<;>first|(cases he;done)|(simp only[aa9,afm]at he;exact he.2.symm)
    .rw[i]at hj;injection hj with hj;subst hj;rw[hi];simp
    have:=hj id i;simp only[b,f,this,hi,abH,bF];split at he<;>first|(cases he;done)|(simp only[aa9,afm]at he;rename_i t;simp only[t,he.1])
  cases he
 case gV e s x lo hi o=>
  simp only[aH]at he⊢;split at he;·rename_i b;simp only[aeX,abF,aa9,afm]at he;obtain⟨m,u,w,y,l,A,rfl,rfl⟩:=he;refine⟨rfl,λj hj=>?_,λO hj=>by grind⟩;simp_all[bJ.target]
  .rename_i id off len cap ex b;simp only[aeX,abF]at he;have⟨m,u,w,y,l,A,he⟩:=he;split at he
   .rename_i h;obtain⟨rfl,rfl⟩:=he;refine⟨rfl,λj hj=>?_,λO hj=>?_⟩
    .cases lo with
     |none=>trivial
     |some lo=>
      simp only[bJ.target,b]at hj;cases ex with
      |true=>grind
      |false=>
       simp only at hj;split at hj;·grind
       rename_i g;injection hj with hj;subst hj;simp only[Bool.false_or,Option.isNone_some,Bool.or_false,aij,g,false_or]at h;grind[qf]
    have B:(ex||o.isSome||lo.isNone||qf O id e)=true:=by cases ex with|true=>simp|false=>cases g:o.isSome with|true=>simp|false=>rw[g]at h;have:=hj id (by simp[bJ.target,b,g]);simpa[qf,this]using h
    grind
   grind
  grind
inductive kC where
 |aD
 |slice(len cap:Nat)(exact:Bool)
 |map
def kC.of(n:kC)(i:ah):AV:=
 match n with
 |.aD=>.aD i 0
 |.slice l c e=>.slice i 0 l c e
 |.map=>.map i
theorem kC.name(n:kC)(i:ah):gX (n.of i)=some i:=by cases n<;>rfl
def bR.kD:bR->Prop
 |.cells _ _ _ rw aK _=>rw=true/\aK=[]
 |.map es _=>es=[]
 |.kz _ _ _=>True
 |_=>False
theorem QB(d:Q.kP=true)(he:aH Q M V=some (L,H2)):∃(n:kC)(dq:bR),L=n.of V.next/\H2=V.new dq/\dq.kD/\∀O,aH Q M O=some (n.of O.next,O.new dq):=by
 cases Q<;>(try(simp[bJ.kP]at d;done));case alloc e a=>simp only[aH,aa9,afm]at he⊢;obtain⟨rfl,rfl⟩:=he;exact⟨.aD,_,rfl,rfl,⟨rfl,rfl⟩,λ_=>⟨rfl,rfl⟩⟩
 case ky=>simp only[aH,aa9,afm]at he⊢;obtain⟨rfl,rfl⟩:=he;exact⟨.map,_,rfl,rfl,rfl,λ_=>⟨rfl,rfl⟩⟩
 case box e x=>
  simp only[aH]at he⊢;split at he;·rename_i h1;obtain⟨rfl,rfl⟩:=he;exact⟨.aD,_,rfl,rfl,⟨rfl,rfl⟩,λ_=>by simp only[h1,bg];rfl⟩
  grind
 case buildSlice e n a f=>
  simp only[aH]at he⊢;split at he
  .split at he;·rename_i h1;obtain⟨rfl,rfl⟩:=he;exact⟨.slice n n true,_,rfl,rfl,⟨rfl,rfl⟩,λ_=>by simp only[h1,bg];rfl⟩
   grind
  grind
 case mJ e b s a x y=>
  simp only[aH]at he⊢;split at he
  .rename_i l c hl g;split at he;·rename_i h1;obtain⟨rfl,rfl⟩:=he;exact⟨.slice l c true,_,rfl,rfl,⟨rfl,rfl⟩,λ_=>by simp only[h1,bg];rfl⟩
   grind
  grind
 case pV x=>
  simp only[aH]at he⊢;split at he;·obtain⟨rfl,rfl⟩:=he;exact⟨.aD,_,rfl,rfl,trivial,λ_=>rfl⟩
  grind
theorem QC{a:AV}(h:eV a L=true):a=L:=by
 have h1:∀{a L:AV},cD a L=true->a=L:=by intro a L h;cases a<;>cases L<;>simp only[cD,abH]at h<;>first|rfl|(simp only[beq_iff_eq]at h;rw[h])|(simp only[ahl,Nat.beq_eq,dW,beq_iff_eq]at h;obtain⟨rfl,rfl⟩:=h;rfl)|(simp only[sJ,beq_iff_eq]at h;rw[h])|(simp only[ahl,Nat.beq_eq,ah.ft]at h;obtain⟨rfl,rfl⟩:=h;rfl)|(simp only[ah.ft]at h;rw[h])|(simp only[ahl,Nat.beq_eq,ah.ft,beq_iff_eq]at h;obtain⟨⟨⟨⟨rfl,rfl⟩,rfl⟩,rfl⟩,rfl⟩:=h;rfl)
 have h2:∀{l m:List AV},j9 l m=true->l=m:=by intro l;induction l with|nil=>intro m h;cases m<;>simp[j9]at h;rfl|cons a l b=>intro m h;cases m with|nil=>simp[j9]at h|cons L m=>simp only[j9,ahl]at h;rw[h1 h.1,b h.2]
 unfold eV at h;split at h;·grind
 .grind
 .simp only[ahl,Nat.beq_eq]at h;grind
 grind
end
theorem Ef(hg:∀j,O.get j=V.get j\/O.get j=.none)(i j:ah)(hi:i∈(O.get j).aK):i∈(V.get j).aK:=by
 rcases hg j with e|e;·rw[e]at hi;exact hi
 rw[e]at hi;cases hi
theorem bm.sub(h:bm B N J O F)(f:H2.next=O.next)(hg:∀j,H2.get j=O.get j\/H2.get j=.none):bm B N J H2 F:=by
 have c:∀j,H2.get j≠.none->H2.get j=O.get j:=λj hj=>(hg j).resolve_right hj;have g:=Ef hg;constructor;·intro i hi;have e:=c i hi;rw[e]at hi⊢;exact h.dq i hi
 .intro i j b x y d hi hj;have e:=c i hi;have k:=c j hj;rw[e]at hi⊢;rw[k]at hj⊢;exact h.jC i j b x y d hi hj
 .intro i j hi;have⟨h1,h2⟩:=h.aK i j (g i j hi);grind
 .intro i b x hi;have e:=c i hi;rw[e]at hi⊢;exact h.wr i b x hi
 .intro i hi;rw[f]at hi;have⟨h1,h2⟩:=h.du i hi;exact⟨by rcases hg i with e|e<;>rw[e];exact h1,h2⟩
 .exact h.new
 .exact h.kR
 .intro i b x l hi;have e:=c i hi;rw[e]at hi⊢;exact h.iK i b x l hi
 .exact h.ef
 .intro i b x hi;have e:=c i hi;rw[e]at hi;exact h.rd i b x hi
 .intro i hi;have⟨h1,h2,h3⟩:=h.un i hi;exact⟨by rcases hg i with e|e<;>rw[e];exact h1,by rw[f];exact h2,λj hj=>h3 j (g i j hj)⟩
 exact h.dJ
def cq.i9(N:cq)(J:aP)(hl:ah->Prop)(dd:ah->Prop):cq where
 w b:=N.w b/\∀i x,hl i->J i≠some (b,x)
 r b:=N.r b/\∀i x,hl i->J i≠some (b,x)
 un i:=N.un i\/hl i\/dd i
 dJ i:=N.dJ i\/dd i
theorem qp{o:bR}(h:o.kD):o.jO=false/\o.aK=[]/\o≠.none:=by cases o<;>simp[bR.kD]at h<;>simp[bR.jO,bR.aK];omega
theorem bm.i9(h:bm B N J O F){hl dd:ah->Prop}(q:∀i,hl i->(O.get i).kD)(hd:∀i,dd i->O.get i=.none/\J i=none/\i.ap<O.next.ap/\∀j,i∉(O.get j).aK)(l:H2.next=O.next)(hg:∀j,H2.get j=O.get j\/H2.get j=.none)(r:∀i,hl i->H2.get i=.none):bm B (N.i9 J hl dd) J H2 F:=by
 have hs:=h.sub l hg;have n:∀j,H2.get j≠.none->H2.get j=O.get j:=λj hj=>(hg j).resolve_right hj;have s:=Ef hg;have sO:∀j b x,H2.get j≠.none->J j=some (b,x)->∀i y,hl i->J i≠some (b,y):=by
  intro j b x hj u i y hi v;have⟨m,t,f⟩:=qp (q i hi);have o:i≠j:=λe=>hj (e▸r i hi);have p:O.get j≠.none:=by rw[<-n j hj];exact hj
  rcases h.jC i j b y x o f p v u with⟨g,_⟩|⟨g,_⟩;·have:=(h.aK i j g).2 f;rw[m]at this;cases this
  rw[t]at g;cases g
 constructor;·exact hs.dq
 .exact hs.jC
 .exact hs.aK
 .intro i b x hi z e;exact⟨hs.wr i b x hi z e,λk y d=>sO i b x hi e k y d⟩
 .exact hs.du
 .intro k d;have c:∀i x,hl i->J i≠some (k,x):=λi x _ e=>by have:=h.ef i k x e;omega
  exact⟨⟨(h.new k d).1,c⟩,⟨(h.new k d).2,c⟩⟩
 .exact hs.kR
 .exact hs.iK
 .exact hs.ef
 .intro i b x hi e;exact⟨hs.rd i b x hi e,λk y d=>sO i b x hi e k y d⟩
 .intro i hi;rcases hi with hi|hi|hi;·exact hs.un i hi
  .have⟨m,t,f⟩:=qp (q i hi);refine⟨r i hi,by rw[l];exact h.A0 f,λj hj=>?_⟩;have:=(h.aK i j (s i j hj)).2 f;rw[m]at this;cases this
  have⟨h0,h1,h2,h3⟩:=hd i hi;exact⟨by rcases hg i with e|e<;>rw[e];exact h0,by rw[l];exact h2,λj hj=>h3 j (s i j hj)⟩
 intro i hi;rcases hi with hi|hi;·exact⟨.inl (hs.dJ i hi).1,(hs.dJ i hi).2⟩
 exact⟨.inr (.inr hi),(hd i hi).2.1⟩
theorem bm.Eg(h:bm B N J V o){hl dd:ah->Prop}(E:∀i,hl i->(V.get i).kD)(p:b9 J u)(g:bm B (N.i9 J hl dd) u O F)(q:dk (N.i9 J hl dd) o F)(T:H2.next=O.next)(h1:∀i,hl i->H2.get i=V.get i)(h2:∀i,¬hl i->H2.get i=O.get i):bm B N u H2 F/\dk N o F:=by
 have d:∀i,hl i->∃b x r,J i=some (b,x)/\u i=some (b,x)/\u.k b=J.k b/\o.heap[b]?=some r/\F.heap[b]?=some r/\OR B J (V.get i) x r:=by intro i hi;have⟨b,x,r,e,K,hb,W⟩:=h.aE (qp (E i hi)).2.2;exact⟨b,x,r,e,(p _ _ e).1,(p _ _ e).2,hb,by rw[q.block b K λG=>G.2 i x hi e];exact hb,W⟩
 have C:∀i j,i∈(H2.get j).aK->¬hl i/\¬hl j/\i∈(O.get j).aK:=by
  intro i j hj;by_cases f:hl j;·rw[h1 j f,(qp (E j f)).2.1]at hj;cases hj
  rw[h2 j f]at hj;exact⟨λhi=>(g.un i (.inr (.inl hi))).2.2 j hj,f,hj⟩
 refine⟨⟨?_,?_,?_,?_,?_,?_,?_,?_,?_,?_,?_,?_⟩,⟨q.os,q.tape,q.output,q.size,λZ h1 G=>q.block Z h1 λL=>G L.1⟩⟩
 .intro i hi;by_cases c:hl i;·grind[OR.mono]
  rw[h2 i c]at hi⊢;exact g.dq i hi
 .intro i j b x y z hi hj t m;by_cases c:hl i
  .have⟨b1,I,_,l,n,_⟩:=d i c;rw[n]at t;injection t with t;injection t with M Q;subst M;subst Q;by_cases f:hl j;·have⟨b2,X,_,c1,c2,_⟩:=d j f;rw[c2]at m;injection m with m;injection m with s A;subst s;subst A;rw[h1 i c]at hi⊢;rw[h1 j f]at hj⊢;exact h.jC i j _ _ _ z hi hj l c1
   rw[h2 j f]at hj;exact absurd l ((g.rd j _ y hj m).2 i _ c)
  by_cases f:hl j;·have⟨b2,X,_,c1,c2,_⟩:=d j f;rw[c2]at m;injection m with m;injection m with s A;subst s;rw[h2 i c]at hi;exact absurd c1 ((g.rd i _ x hi t).2 j _ f)
  rw[h2 i c]at hi⊢;rw[h2 j f]at hj⊢;exact g.jC i j b x y z hi hj t m
 .intro i j hj;have⟨l,n,a3⟩:=C i j hj;have⟨b1,b2⟩:=g.aK i j a3;grind
 .intro i b x hi D e;by_cases c:hl i;·have⟨b1,I,_,l,n,_⟩:=d i c;rw[n]at e;injection e with e;injection e with v S;subst v;rw[h1 i c]at hi D;exact h.wr i _ _ hi D l
  rw[h2 i c]at hi D;exact(g.wr i b x hi D e).1
 .intro i hi;rw[T]at hi;have⟨l,n⟩:=g.du i hi;grind
 .intro Z R;exact h.new Z (aiw q.size R)
 .exact g.kR
 .intro i b x r hi e hb;by_cases c:hl i;·have⟨b1,I,Y,l,n,a3,a4,a5,_⟩:=d i c;rw[n]at e;injection e with e;injection e with v S;subst v;rw[a5]at hb;injection hb with hb;subst hb;rw[h1 i c]at hi⊢;rw[a3];exact h.iK i _ _ _ hi l a4
  rw[h2 i c]at hi⊢;exact g.iK i b x r hi e hb
 .exact g.ef
 .intro i b x hi e;by_cases c:hl i;·have⟨b1,I,_,l,n,_⟩:=d i c;rw[n]at e;injection e with e;injection e with v S;subst v;rw[h1 i c]at hi;exact h.rd i _ _ hi l
  rw[h2 i c]at hi;exact(g.rd i b x hi e).1
 .intro i hi;have⟨l,n,a3⟩:=g.un i (.inl hi);have c:¬hl i:=λc=>(qp (E i c)).2.2 (h.un i hi).1;grind
 intro i hi;exact⟨(h.dJ i hi).1,(g.dJ i (.inl hi)).2⟩
mutual
theorem VR.pt(h:∀i x y,J i=some x->ρ i=some y->u i=some x/\u.k x.1=J.k x.1):∀(v:AV)(c d:Value),VR J v c->VR ρ v d->VR u v c
 |.tuple l,.tuple cs,.tuple m,I,q=>by exact be.pt h l cs.toList m.toList I q
 |.agg l,.agg cs,.agg m,I,q=>by exact be.pt h l cs.toList m.toList I q
 |.bool _,.bool _,_,I,_=>by trivial
 |.int _ _,.int _ _,_,I,_=>by trivial
 |.str _,.string _,_,I,_=>by trivial
 |.aD i o,.pointer (some K),.pointer (some z),I,q=>by
  obtain⟨b,x,e,rfl⟩:=I;obtain⟨p,A,r,_⟩:=q;exact⟨b,x,(h _ _ _ e r).1,rfl⟩
 |.j5,.pointer none,_,_,_=>by trivial
 |.slice i o len cap ex,.slice (some K) n c,.slice (some z) D j,I,q=>by
  obtain⟨h1,h2,h3,B,b,x,e,C,E⟩:=I;obtain⟨_,_,_,_,p,A,r,_⟩:=q
  exact⟨h1,h2,h3,B,b,x,(h _ _ _ e r).1,C,by grind⟩
 |.bj,.slice none 0 0,_,_,_=>by trivial
 |.map i,.map (some b),.map (some p),I,q=>by grind[VR]
 |.cP,.map none,_,_,_=>by trivial
 |.func f K b,.func (.func g) c d,.func (.func F) j s,I,q=>by
  exact⟨I.1,be.pt h K c.toList j.toList I.2.1 q.2.1,be.pt h b d.toList s.toList I.2.2 q.2.2⟩
 |.yield i,.func (.yield b) c d,.func (.yield p) j s,I,q=>by grind[VR]
 |.nilFunc,.nilFunc,_,_,_=>by trivial
 |.iface t v,.iface L c,.iface G j,I,q=>by exact⟨I.1,VR.pt h v c j I.2 q.2⟩
 |.nilIface,.nilIface,_,_,_=>by trivial
 |.bQ,_,_,_,_=>by trivial
theorem be.pt(h:∀i x y,J i=some x->ρ i=some y->u i=some x/\u.k x.1=J.k x.1):∀(l:List AV)(m n:List Value),be J l m->be ρ l n->be u l m
 |[],[],_,_,_=>by trivial
 |v::l,c::m,d::n,b,q=>by exact⟨VR.pt h v c d b.1 q.1,be.pt h l m n b.2 q.2⟩
end
theorem OR.pt(h:∀i F y,J i=some F->ρ i=some y->u i=some F/\u.k F.1=J.k F.1){o:bR}(f:o.kD){b d:Obj}(E:OR B J o x b)(q:OR B ρ o W d):OR B u o x b:=by
 cases o with
 |cells c n e rw aK fz=>cases b<;>simp only[OR]at E⊢;cases d<;>simp only[OR]at q;have⟨g,j,m,t⟩:=E;have⟨_,_,v,_⟩:=q;refine⟨g,j,λi hi=>?_,t⟩;have⟨y,A,C⟩:=m i hi;have⟨z,_,D⟩:=v i hi;exact⟨y,A,VR.pt h _ _ _ C D⟩
 |map es c=>simp only[bR.kD]at f;subst f;cases b<;>simp only[OR]at E⊢;refine⟨E.1,E.2.1,E.2.2.1,?_⟩;have:=E.2.2.2;generalize(Array.toList _)=l at this⊢;cases l with|nil=>simp[ct]|cons G l=>simp[ct]at this
 |kz s r p=>cases b<;>simp only[OR]at E⊢;exact E
 |_=>simp[bR.kD]at f
theorem pu(n:ah):∀p:ah,ai.get ⟨.ch,n⟩ p=.none:=by
 have:∀p:ah,(az.ch:az bR).get .none p=.none:=by intro p;induction p with|xH=>rfl|xO p c=>exact c|xI p c=>exact c
 trivial
theorem bm.empty(h:bm B N J O F){n:ah}(d:O.next.ap<=n.ap):bm B ⟨λf=>F.heap.size<=f,λf=>F.heap.size<=f,λj=>J j=none/\j.ap<n.ap,λj=>J j=none/\j.ap<n.ap⟩ J ⟨.ch,n⟩ F:=by
 constructor;·intro i hi;exact absurd (pu n i) hi
 .intro i j f x y _ hi;exact absurd (pu n i) hi
 .intro i j hj;rw[pu]at hj;cases hj
 .intro i f x hi;exact absurd (pu n i) hi
 .intro i hi;exact⟨pu n i,(h.du i (aiw d hi)).2⟩
 .intro k c;exact⟨c,c⟩
 .exact h.kR
 .intro i f x e hi;exact absurd (pu n i) hi
 .exact h.ef
 .intro i f x hi;exact absurd (pu n i) hi
 .intro i hi;exact⟨pu n i,hi.2,λj hj=>by rw[pu]at hj;cases hj⟩
 intro i hi;exact⟨hi,hi.1⟩
theorem QD(h:bm B N J O F)(hE:gP J x M C.tmps)(hc:bK B x D=some Q){n:kC}{dq:bR}(hy:dq.kD)(he:∀H':ai,aH Q M H'=some (n.of H'.next,H'.new dq))(h1:J d=none)(h2:d.ap<O.next.ap)(h3:¬N.un d)(h4:∀j,d∉(O.get j).aK):bC B N J F (execOp C.eval D) (n.of d) (O.set d dq):=by
 have⟨f1,f2,f3⟩:=qp hy;have⟨c,w',av,v,xa,K,S,L⟩:=zb (dl.mk hE (h.empty (n:=O.next) (aeE _))) hc (he _);obtain⟨c2,w2,_,ax,xb,_,Ib,_⟩:=zb (dl.mk hE (h.empty (n:=O.next.succ) (by rw[ah.eP];omega))) hc (he _);have ga:(ai.new ⟨.ch,O.next⟩ dq).get O.next=dq:=by rw[ai.cL,aF rfl]
 have gb:(ai.new ⟨.ch,O.next.succ⟩ dq).get O.next.succ=dq:=by rw[ai.cL,aF rfl]
 obtain⟨s,G,X,T,e2,e3⟩:=S.dq O.next (by rw[ga];exact f3);obtain⟨bb,yb,a8,_,_,d3⟩:=Ib.dq O.next.succ (by rw[gb];exact f3);rw[ga]at e3;rw[gb]at d3;have a6:F.heap.size<=s:=S.rd O.next s G (by rw[ga];exact f3) T;have aw:∀j z,v j=some z->j≠O.next->J j=some z:=by
  intro j z V hj;cases hr:J j with
  |some z'=>have:=(xa _ _ hr).1;rw[this]at V;exact V
  |none=>
   exfalso;rcases Nat.lt_trichotomy j.ap O.next.ap with hl|hl|hl;·have:=(S.dJ j ⟨hr,hl⟩).2;rw[this]at V;cases V
   .exact hj (ah.rC hl)
   have:=(S.du j (by show O.next.succ.ap<=_;rw[ah.eP];omega)).2;rw[this]at V;cases V
 have ay:ax O.next=none:=(Ib.dJ O.next ⟨(h.du _ (aeE _)).2,by rw[ah.eP];omega⟩).2;have q:b9 J (J.add d s G (v.k s)):=aP.qi s G _ h1 (λj c y e hc=>by have:=(xa _ _ e).2;simp only at this;rw[hc]at this;exact this.symm);have a1:OR B (J.add d s G (v.k s)) dq G X:=by
  refine OR.pt ?_ hy e3 d3;intro j bc y hx Y;have hj:j≠O.next:=λe=>by rw[e,ay]at Y;cases Y
  have:=aw j bc hx hj;exact⟨(q _ _ this).1,by rw[(q _ _ this).2,(xa _ _ this).2]⟩
 have eg:∀a',a'<F.heap.size->w'.heap[a']?=F.heap[a']?:=λa' t=>L.block a' t (by show¬F.heap.size<=a';omega);refine⟨c,w',av,J.add d s G (v.k s),q,?_,?_,⟨L.os,L.tape,L.output,L.size,λa' t _=>eg a' t⟩⟩
 .cases n with
  |aD=>have⟨ba,bc,m,u⟩:=VR.l7 K;rw[T]at m;injection m with m;injection m with R W;subst R;subst W;rw[u];exact⟨_,_,aP.eA ..,rfl⟩
  |slice l cp ex=>
   simp only[kC.of]at K⊢;cases c with
   |slice ad l' c'=>cases ad with|none=>simp[VR]at K|some ad=>simp only[VR]at K⊢;have⟨p1,p2,p3,p4,ba,bc,m,u,R⟩:=K;rw[T]at m;injection m with m;injection m with W q5;subst W;subst q5;exact⟨p1,p2,p3,p4,_,_,aP.eA ..,u,by rw[aP.sF];exact R⟩
   |_=>simp[VR]at K
  |map=>have⟨ba,m,u⟩:=VR.po K;rw[T]at m;injection m with m;injection m with R W;subst R;subst W;rw[u];simp only[kC.of,VR];exact aP.eA ..
 have hg:∀j,(O.set d dq).get j=if j=d then dq else O.get j:=λj=>ai.aG _ _ _ _;have I:∀j a',j∈((O.set d dq).get a').aK->a'≠d/\j≠d/\j∈(O.get a').aK:=by
  intro j a' hj;rw[hg]at hj;by_cases e:a'=d;·rw[aF e,f2]at hj;cases hj
  rw[an e]at hj;exact⟨e,λe2=>h4 a' (e2▸hj),hj⟩
 have f:∀j,j≠d->(J.add d s G (v.k s)) j=J j:=λj hj=>by simp[aP.add,hj]
 constructor
 .intro j hj;rw[hg]at hj⊢;by_cases e:j=d;·subst e;rw[aF rfl];exact⟨s,G,X,aP.eA ..,e2,a1⟩
  rw[an e]at hj⊢;have⟨ba,bc,ob,g1,g2,g3,g4⟩:=h.aE hj;exact⟨ba,bc,ob,by rw[f j e];exact g1,by rw[eg ba g2];exact g3,OR.mono q g4⟩
 .intro j a' ba bc y Z hj t A E;rw[hg]at hj t;rw[hg,hg];by_cases e:j=d;·subst e;have p:a'≠j:=λe=>Z e.symm;rw[aP.eA]at A;injection A with A;injection A with A _;rw[f a' p]at E;have:=h.ef a' ba y E;omega
  by_cases p:a'=d;·subst p;rw[aP.eA]at E;injection E with E;injection E with E _;rw[f j e]at A;have:=h.ef j ba bc A;omega
  rw[an e]at hj⊢;rw[an p]at t⊢;rw[f j e]at A;rw[f a' p]at E;exact h.jC j a' ba bc y Z hj t A E
 .intro j a' hj;have⟨g1,g2,g3⟩:=I j a' hj;have⟨m,u⟩:=h.aK j a' g3;exact⟨m,λag=>by rw[hg,an g2]at ag⊢;exact u ag⟩
 .intro j ba bc hj hf e;rw[hg]at hj hf;by_cases p:j=d;·subst p;rw[aP.eA]at e;injection e with e;injection e with e _;exact(h.new ba aa).1
  rw[an p]at hj hf;rw[f j p]at e;exact h.wr j ba bc hj hf e
 .intro j hj;have r:j≠d:=λe=>by subst e;have:O.next.ap<=j.ap:=hj;omega
  have⟨m,u⟩:=h.du j hj;exact⟨by rw[hg,an r];exact m,by rw[f j r];exact u⟩
 .intro a' t;exact h.new a' (aiw L.size t)
 .intro g a2;exact(q _ _ (h.kR g a2)).1
 .intro j ba bc ob hj e hb;rw[hg]at hj⊢;by_cases p:j=d;·subst p;rw[aF rfl];rw[aP.eA]at e;injection e with e;injection e with e4 e5;subst e4;rw[aP.sF];have:=S.iK O.next _ _ ob (by rw[ga];exact f3) T hb;rw[ga]at this;exact this
  rw[an p]at hj⊢;rw[f j p]at e;rw[(q _ _ e).2];exact h.iK j ba bc ob hj e (by rw[<-eg ba (h.ef j ba bc e)];exact hb)
 .intro j ba bc e;by_cases p:j=d;·subst p;rw[aP.eA]at e;injection e with e;injection e with e4 _;subst e4;exact S.ef _ _ _ T
  rw[f j p]at e;exact ahC (h.ef j ba bc e) L.size
 .intro j ba bc hj e;rw[hg]at hj;by_cases p:j=d;·subst p;rw[aP.eA]at e;injection e with e;injection e with e4 _;exact(h.new ba aa).2
  rw[an p]at hj;rw[f j p]at e;exact h.rd j ba bc hj e
 .intro j hj;have⟨m,u,R⟩:=h.un j hj;have r:j≠d:=λe=>h3 (e▸hj);exact⟨by rw[hg,an r];exact m,u,λa' t=>R a' (I j a' t).2.2⟩
 intro j hj;have r:j≠d:=λe=>h3 (e▸(h.dJ j hj).1);exact⟨(h.dJ j hj).1,by rw[f j r];exact(h.dJ j hj).2⟩
section
variable{l:List bD}
def fu(s:Array Nat)(i j:Nat):Prop:=(s.getD i 0).testBit j=true
def In(L:Array Bool)(i:Nat):Prop:=L.getD i false=true
def kE(b:Array Oper)(i j:Nat):Prop:=∃o e,b[i]?=some o/\e∈o.after.toList/\Region.binds .any e=true/\e.on=j
theorem IR(a:Array Nat)(j:Nat):∀(es:List Edge)(s:Nat),(es.foldl (λs e=>if Region.binds .any e then s|||2^e.on|||a.getD e.on 0 else s) s).testBit j=true->s.testBit j=true\/∃e∈es,Region.binds .any e=true/\(j=e.on\/(a.getD e.on 0).testBit j=true)|[],s,h=>.inl h|e::es,s,h=>by simp only[List.foldl_cons]at h;rcases IR a j es _ h with h1|⟨b,he,h1⟩;all_goals grind
def rG(a:Array Nat)(o:Oper):Array Nat:=a.push (o.after.foldl (λs e=>if Region.binds .any e then s|||2^e.on|||a.getD e.on 0 else s) 0)
theorem QE(aA:Array Oper):Region.before aA=aA.toList.foldl rG #[]:=by unfold Region.before;rw[<-Array.foldl_toList];rfl
theorem IS(aA:Array Oper):∀(b bY:List Oper)(a:Array Nat),aA.toList=bY++b->a.size=bY.length->(∀i j,(a.getD i 0).testBit j=true->∃k,kE aA i k/\k<i/\(j=k\/(a.getD k 0).testBit j=true)\/(kE aA i j))->∀i j,((b.foldl rG a).getD i 0).testBit j=true->∃k,kE aA i k/\k<i/\(j=k\/((b.foldl rG a).getD k 0).testBit j=true)\/(kE aA i j)
 |[],_,_,_,_,h=>h
 |o::b,bY,a,r,hs,h=>by
  refine IS aA b (bY++[o]) _ (by grind) (by simp[hs,rG]) ?_;intro i j c;have f:∀k,k<a.size->(rG a o).getD k 0=a.getD k 0:=by intro k m;simp only[rG,ah2];rw[aiA,an aa]
  have g:∀k,a.size<=k->a.getD k 0=0:=by intro k m;simp[ah2,aiq m]
  rcases Nat.lt_trichotomy i a.size with hl|hl|hl
  .rw[f i hl]at c;obtain⟨k,m|m⟩:=h i j c;·grind
   simp_all
  .subst hl;have d:(rG a o).getD a.size 0=o.after.foldl (λs e=>if Region.binds .any e then s|||2^e.on|||a.getD e.on 0 else s) 0:=by simp only[rG,ah2];rw[aiA,aF rfl];rfl
   rw[d,<-Array.foldl_toList]at c;have p:aA[a.size]?=some o:=by rw[<-Array.getElem?_toList,r,hs];simp
   rcases IR a j _ _ c with h0|⟨e,he,hb,h1⟩;·grind
   rcases h1 with h1|h1;·exact⟨0,.inr ⟨o,e,p,he,hb,h1.symm⟩⟩
   have n:e.on<a.size:=by
    rcases aic e.on a.size with q|q;·exact q
    rw[g _ q]at h1;simp at h1
   exact⟨e.on,.inl ⟨⟨o,e,p,he,hb,rfl⟩,n,.inr (by grind)⟩⟩
  grind[rG,Array.getD_eq_getD_getElem?,Array.getElem?_eq_none]
theorem QF(aA:Array Oper)(h:fu (Region.before aA) x W):∃k,kE aA x k/\k<x/\(W=k\/fu (Region.before aA) k W)\/kE aA x W:=by rw[QE]at h⊢;exact IS aA aA.toList [] #[] rfl rfl (λx W h=>by grind) x W h
theorem sP{S:Nat->Prop}(a:∀i,S i->∀j,kE b i j->S j):∀(i:Nat),(∀j,kE b i j->S j)->∀j,fu (Region.before b) i j->S j:=by intro i;induction i using Nat.strongRecOn with|ind i c=>grind[QF]
theorem QG(h:yT b=true)(hd:kE b x W):W<x:=by
 obtain⟨o,e,h1,h2,h3,rfl⟩:=hd;unfold yT at h;rw[aiv]at h;have a:(o,x)∈b.toList.zipIdx:=by rw[List.mem_zipIdx_iff_getElem?];rw[Array.getElem?_toList];exact h1
 grind[Array.all_eq_true_iff_forall_mem]
theorem QH{L:Array Bool}(U:L.size=b.size)(h:x∈Region.ready .any b L):x<b.size/\¬In L x/\∀j,kE b x j->In L j:=by
 simp only[Region.ready,aiR,ahR,ahl,ah3]at h;have⟨h1,h2,h3⟩:=h;refine⟨h1,?_,?_⟩;·simp_all[In,ah2,getElem?_pos,aii]
 rintro j⟨o,e,a,c,d,rfl⟩;grind[Array.all_eq_true_iff_forall_mem,In]
theorem QI{L:Array Bool}(U:L.size=b.size)(he:yT b=true)(h:Region.ready .any b L=[]):∀i,i<b.size->In L i:=by
 intro i;induction i using Nat.strongRecOn with
 |ind i f=>
  intro hi;by_cases a:In L i;·omega
  have:i∈Region.ready .any b L:=by
   simp only[Region.ready,aiR,ahR,ahl,ah3];refine⟨hi,?_,?_⟩;·have c:i<L.size:=aa;unfold In at a;simp only[ah2,getElem?_pos L i c,aii]at a⊢;simpa using a
   rw[getElem?_pos b i hi];simp only[ahQ,aii,Array.all_eq_true_iff_forall_mem];intro e d;cases hb:Region.binds .any e with|false=>simp|true=>have hd:kE b i e.on:=⟨b[i],e,getElem?_pos b i hi,by simpa using d,hb,rfl⟩;have c:=QG he hd;have:=f e.on c aa;simp only[ahN,Bool.false_or];exact this
  grind
def wR(L:Array Bool)(n:Nat):Nat:=((ahq n).filter λi=>!L.getD i false).length
theorem IT{p q:Nat->Bool}{i:Nat}:∀(r:List Nat),r.Nodup->i∈r->p i=true->q i=false->(∀j,j≠i->q j=p j)->(r.filter q).length+1=(r.filter p).length
 |[],_,h,_,_,_=>by grind
 |a::r,b,h,c,d,hj=>by
  rw[ahT]at b;by_cases e:a=i;·grind[List.filter_congr]
  have f:i∈r:=by
   rcases ac2.1 h with q|q;·exact absurd q.symm e
   exact q
  have:=IT r b.2 f c d hj;grind
theorem Eh{L:Array Bool}{i:Nat}(hi:i<L.size)(j:Nat):In (L.setIfInBounds i true) j↔j=i\/In L j:=by unfold In;by_cases e:i=j;all_goals simp_all[aiZ]
theorem QJ{L:Array Bool}{i:Nat}(U:L.size=x)(hi:i<x)(h:¬In L i):wR (L.setIfInBounds i true) x+1=wR L x:=by
 refine IT (i:=i) _ List.nodup_range (by grind) ?_ ?_ ?_;·simp_all[In]
 .simp_all
 intro j hj;have:=Eh (L:=L) (i:=i) aa j;unfold In at this;simp only[hj,false_or]at this;cases h1:L.getD j false<;>cases h2:(L.setIfInBounds i true).getD j false<;>simp_all
theorem QK{L:Array Bool}(hi:x<W)(h:¬In L x):0<wR L W:=by apply List.length_pos_of_mem (a:=x);simp_all[In,ah2]
def eR(l:List bD)(i:Nat)(t:ah):Prop:=∃x,l[i]?=some x/\x.dst=some t
def Mk(l:List bD)(af:az AV)(i:Nat)(j:ah):Prop:=∃x d,l[i]?=some x/\x.op.kP=true/\x.dst=some d/\gX (af.get .ai8 d)=some j
def Ch(l:List bD)(i:Nat):Prop:=∃x,l[i]?=some x/\x.op.jN=true
theorem QL(h:Q.jN=true):Q.kP=false/\Q.iZ=false/\Q.plain=false:=by cases Q<;>simp[bJ.jN]at h<;>simp[bJ.kP,bJ.iZ,bJ.plain]
theorem wS(h:Q.kP=true):Q.jN=false/\Q.iZ=false/\Q.plain=false:=by cases Q<;>simp[bJ.kP]at h<;>simp[bJ.jN,bJ.iZ,bJ.plain]
theorem wT(h:Q.iZ=true):Q.jN=false/\Q.kP=false/\Q.plain=false:=by cases Q<;>(try(simp[bJ.iZ]at h;done))<;>simp[bJ.jN,bJ.kP,bJ.plain];rename_i lo _ _;cases lo;all_goals trivial
theorem px(h:rA l s x W=true){o y:bD}(c:l[x]?=some o)(f:l[W]?=some y):x≠W/\¬fu s x W/\(∀d,o.dst=some d->y.dst≠some d/\(d∈y.ke->fu s W x))/\(∀d,y.dst=some d->d∈o.ke->fu s W x/\o.op.iZ=false)/\(o.op.jN=true->fu s W x/\∀k,fu s x k->fu s W k):=by
 unfold rA at h;rw[c,f]at h;simp only[ahl,bne_iff_ne,ne_eq,ah3]at h;have⟨⟨⟨⟨h1,h2⟩,h3⟩,a⟩,b⟩:=h;refine⟨h1,by simp_all[fu],?_,?_,?_⟩
 .intro d hd;rw[hd]at h3;simp only[ahl,aij,ah3]at h3;refine⟨λe=>?_,λg=>?_⟩;·grind
  rcases h3.2 with h|h;·exact h
  grind
 .intro d hd g;rw[hd]at a;simp only[aij,ahl,ah3]at a;rcases a with h|h;·grind
  trivial
 intro m;simp only[m,ahN,Bool.false_or,ahl,beq_iff_eq]at b;refine⟨b.1,λk n=>?_⟩;unfold fu at n⊢;grind
theorem zg:∀{am:List Nat},wz l s am=true->am.Pairwise (λi j=>rA l s i j=true)/\∀i∈am,∃x,l[i]?=some x/\rB x=true|[],_=>⟨ai4,λi h=>by grind⟩|i::a,h=>by simp only[wz,ahl,aiv]at h;have⟨⟨h1,h2⟩,h3⟩:=h;have⟨b,c⟩:=zg h3;grind[List.pairwise_cons]
theorem IU{b:Type}{R:b->b->Prop}:∀{s:List b},s.Pairwise R->∀{i j:b},i∈s->j∈s->i=j\/R i j\/R j i
 |[],_,i,_,h,_=>by grind
 |a::s,h,i,j,hi,hj=>by
  rw[aiG]at h;rcases ac2.1 hi with e|e;·grind
  rcases ac2.1 hj with c|c;·grind
  exact IU h.2 e c
theorem eR.inj(g:wz l s v=true)(hi:x∈v)(hj:W∈v)(h1:eR l x d)(h2:eR l W d):x=W:=by
 have⟨h,a,b⟩:=h1;have⟨y,c,f⟩:=h2;rcases IU (zg g).1 hi hj with e|e|e;·omega
 .exact absurd f ((px e a c).2.2.1 d b).1
 exact absurd b ((px e c a).2.2.1 d f).1
def iz(af:az AV)(a:List ah):List ah:=a.filterMap λp=>gX (af.get .ai8 p)
theorem Bp(af:az AV):∀(a:List ah)(H:ai)(j:ah),(dF af H a).1.get j=(if j∈iz af a then .none else H.get j)/\(dF af H a).1.next=H.next/\∀b,(dj b (dF af H a).2).get j=(if j∈iz af a then H.get j else b.get j)/\(dj b (dF af H a).2).next=b.next
 |[],H,j=>by simp[dF,iz,dj]
 |p::a,H,j=>by
  unfold dF;cases g:gX (af.get .ai8 p)with
  |none=>have:=Bp af a H j;simpa[iz,g]using this
  |some i=>
   have c:=Bp af a (H.set i .none) j;simp only;have d:∀q,q∈iz af (p::a)↔q=i\/q∈iz af a:=by intro q;simp[iz,g]
   refine⟨?_,by rw[c.2.1];rfl,λb=>⟨?_,?_⟩⟩
   .rw[c.1,ai.aG];by_cases e:j=i;·subst e;simp[d]
    by_cases f:j∈iz af a<;>simp[d,e,f]
   .rw[dj,ai.aG,(c.2.2 b).1,ai.aG];by_cases e:j=i;·subst e;simp[d]
    by_cases f:j∈iz af a<;>simp[d,e,f]
   rw[dj,ai.eK];exact(c.2.2 b).2
theorem IV:d∈iz M (yS l s v x)↔∃k∈v,¬fu s x k/\Mk l M k d:=by
 simp only[iz,yS,List.mem_filterMap];constructor
 .rintro⟨p,⟨k,a,h1⟩,h2⟩;split at h1
  .rename_i r b;split at h1;·rename_i c;simp only[ahl,ah3]at c;exact⟨k,a,by simp_all[fu],r,p,b,c.1,h1,h2⟩
   grind
  grind
 rintro⟨k,a,h1,r,f,b,h2,h3,e⟩;refine⟨f,⟨k,a,?_⟩,e⟩;simp_all[fu,Bool.not_false,ai1,bg]
theorem QM{i:Nat}(a:x∈v){r:bD}(b:l[x]?=some r)(h1:r.op.iZ=true)(h2:¬fu anc i x)(hd:r.dst=some d):(⟨d,r.op,r.guard⟩:gN)∈iZ l anc v i:=by simp only[iZ,List.mem_filterMap];refine⟨x,a,?_⟩;simp_all[fu,Bool.not_false,ai1,bg,ahQ]
theorem IW:∀{re:List gN},dQ M O re=true->∀r∈re,d8 M r.guard=true->∃b,aH r.op M O=some (M.get .ai8 r.dst,b)
 |[],_,r,h,_=>by cases h
 |a::re,h,r,c,hg=>by
  simp only[dQ,ahl]at h;rcases ac2.1 c with e|e
  .subst e;rw[hg]at h;simp only[bg]at h;have:=h.1;split at this;·rename_i w b d;rw[d,QC this];exact⟨b,rfl⟩
   cases this
  exact IW h.2 r e hg
end
end
end Go.al
end
