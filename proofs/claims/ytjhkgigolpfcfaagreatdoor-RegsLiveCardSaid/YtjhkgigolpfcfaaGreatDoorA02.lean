/- A part of the proof. No conditions. -/
import Derived.Test.YtjhkgigolpfcfaaGreatDoorA00
import GoSem.Core.Region
import Derived.Control
import Derived.Below
import Derived.Laws.IdiomCopy
import Derived.Laws.Cells
import GoSem.Dispatch
import Derived.Laws.StructEq
import Derived.Lib.ConvBytes
import Derived.Laws.BytesString
import Derived.Laws.AppendOwn
import Derived.ChangeKeysEq
import Derived.Laws.RangeString
import Derived.RangeFuncIn
import Derived.Orders
set_option linter.all false
open Option.some renaming injEq->adG
open Option renaming bind_eq_some_iff->aed,map_eq_some_iff->aho,pure_def->ajB
open List renaming mem_singleton->aep,mem_cons_of_mem->aey,mem_cons_self->aeU,range->ake,length_map->akg,getElem?_append_left->akw,nodup_cons->akz,length_cons->akA,nodup_append->akI,getElem?_cons_succ->ak6,pairwise_cons->alq
open Nat renaming eq_of_beq_eq_true->aj4,beq->akb,le_of_ble_eq_true->akc,blt->akv,ble_eq_true_of_le->akB,blt_eq->akY,ble->ak2,le_trans->alj,add_assoc->alo,min_eq_left->aly
open Int renaming ofNat->ak1
open Array renaming getD_eq_getD_getElem?->akJ,getElem?_eq_none->akX,filter->alu,replicate->alH,range->alP
open List.Perm renaming swap->akS
open BitVec renaming ofInt->ak5
open UInt8 renaming toNat->alv
open Eq renaming mpr->alN
open List.Pairwise renaming nil->alQ
noncomputable section
namespace Go.am
section
abbrev KT:=AV->ai->Prop
mutual
def ly:Value->Option AV
 |.bool b=>some (.bool b)
 |.int k n=>some (.int (kc k) n)
 |.string s=>some (.str (s.data.toList.map alv))
 |.pointer none=>some .lS
 |.slice none 0 0=>some .aS
 |.map none=>some .cY
 |.nilFunc=>some .nilFunc
 |.nilIface=>some .nilIface
 |.func (.func f) a b=>match vL a.toList,vL b.toList with
  |some a,some b=>some (.func f a b)
  |_,_=>none
 |.agg l=>(vL l.toList).map .agg
 |.tuple l=>(vL l.toList).map .tuple
 |.iface t v=>(ly v).map (.iface t)
 |_=>none
def vL:List Value->Option (List AV)
 |[]=>some []
 |v::l=>match ly v,vL l with
  |some v,some l=>some (v::l)
  |_,_=>none
end
variable(P:Program)(nt:Nat)
def hZ:Operand->Option aJ
 |.tmp t=>if t<nt then some (.t (ab.dF t))else none
 |.const v=>(ly v).map .c
 |.global g=>if g<P.globals.size then some (.c (.az (ab.dF g) 0))else none
 |.func f=>some (.c (.func f [] []))
def vM(l:Array Operand):Option (List aJ):=l.toList.mapM (hZ P nt)
def nC:Option Operand->Option (Option aJ)
 |none=>some none
 |some x=>(hZ P nt x).map some
def ka(t:TypeId):Option TypeInfo:=P.info? t
def iz(t:TypeId):Option TypeDesc:=P.underlying t
def fY(t:TypeId):Option Nat:=(P.info? t).map (·.size)
def zo(t:TypeId):Option Nat:=(P.info? t).map (·.bytes)
def pP(t:TypeId):Option AV:=(P.info? t).bind λi=>i.zero.bind ly
def pi(t:TypeId):Option Bool:=(P.underlying t).map λd=>match d with|.struct _|.array _ _=>true|_=>false
def jP:(b:Nat)->(const:Bool)->TypeId->Option eE
 |0,_,_=>none
 |f+1,const,t=>
  match P.underlying t with
  |some .bool=>some .bool
  |some (.int _)=>some .int
  |some .string=>some .str
  |some (.pointer e)=>match fY P e with
   |some (_+1)=>some .az
   |_=>none
  |some (.slice _)=>some .slice
  |some (.map ..)=>some .map
  |some (.func ..)=>some .func
  |some (.interface c)=>some (.iface const c.isEmpty)
  |some (.struct fs)=>
   if P.stoodInHeld t then none else
   (fs.toList.mapM λ(g:Field)=>if g.name= "_" then none else match jP f false g.type,fY P g.type,pi P g.type with
    |some d,some s,some a=>some (g.offset,s,a,d)
    |_,_,_=>none).map .fi
  |some (.array n e)=>match jP f false e,fY P e,pi P e with
   |some d,some s,some a=>some (.fi ((ake n).map λi=>(i*s,s,a,d)))
   |_,_,_=>none
  |_=>none
def sO(t:TypeId):Option eE:=
 match P.underlying t with
 |some (.int _)|some .string|some .bool|some (.struct _)|some (.array ..)=>jP P 16 false t
 |_=>none
def zp(d:eE)(t:TypeId):Bool:=
 match d with
 |.fi _=>!P.eqGuardType P.depth t
 |_=>true
def rM:Operand->Bool
 |.const _=>true
 |_=>false
def bU(o:Oper):Option bW:=do
 let g:=hZ P nt
 match o.op with
 |.move x|.assign x=>return .bg (<-g x)
 |.pick c a b=>return .pick (<-g c) (<-g a) (<-g b)
 |.alloc e=>return .alloc e (<-pP P e).cells
 |.box e x=>return .box e (<-g x)
 |.build t fi=>
  let r:=(<-pP P t).cells
  match<-iz P t with
  |.struct fs=>
   let u<-fs.toList.mapM λ(f:Field)=>(fY P f.type).map λs=>(f.offset,s)
   let l<-fi.toList.mapM λ(p:Nat×Operand)=>(u[p.1]?).bind λq=>(g p.2).map λx=>(q.1,q.2,x)
   return .build r l
  |.array _ e=>
   let s<-fY P e
   let l<-fi.toList.mapM λ(p:Nat×Operand)=>(g p.2).map λx=>(p.1*s,s,x)
   return .build r l
  |_=>none
 |.buildSlice t len fi=>
  match<-iz P t with
  |.slice e=>
   let s<-fY P e
   let r:=(<-pP P e).cells
   if r.length≠s\/s=0\/len*s>65536 then none else
   let l<-fi.toList.mapM λ(p:Nat×Operand)=>(g p.2).map λx=>(p.1*s,s,x)
   return .buildSlice e len r l
  |_=>none
 |.load t a=>if<-pi P t then return .gw (<-fY P t) (<-g a)else return .aW (<-g a)
 |.store t a x=>return .store (<-fY P t) (<-g a) (<-g x)
 |.nilCheck x=>return .nilCheck (<-g x)
 |.binOp op t x y _=>
  match op,<-iz P t with
  |.shl,.int _|.shr,.int _=>return .shift op (<-g x) (<-g y)
  |_,.int k=>return .arith op (kc k) (<-g x) (<-g y)
  |_,.string=>return .iE op (<-g x) (<-g y)
  |.eql,_=>
   let d<-jP P 16 (rM x||rM y) t
   if zp P d t then return .eq false d (<-g x) (<-g y)else none
  |.neq,_=>
   let d<-jP P 16 (rM x||rM y) t
   if zp P d t then return .eq true d (<-g x) (<-g y)else none
  |_,_=>none
 |.unOp op _ x=>return .unary op (<-g x)
 |.convert s d x=>
  match<-iz P s,<-iz P d with
  |.int _,.int k=>return .kX (kc k) (<-g x)
  |.string,.string=>return .A7 (<-g x)
  |.string,.slice e=>if(<-iz P e)matches .int .u8 then(if fY P e=some 1 then return .xf e (<-g x)else none)else none
  |.slice e,.string=>if(<-iz P e)matches .int .u8 then return .xg (<-g x)else none
  |_,_=>none
 |.makeInterface t x=>if(<-iz P t)matches .interface _ then none else return .lT t (<-g x)
 |.makeFunc (.func f) a b=>return .iP f (<-vM P nt a) (<-vM P nt b)
 |.makeMap _ none=>return .jK
 |.makeMap _ (some _)=>none
 |.makeSlice t l c=>
  match<-iz P t with
  |.slice e=>
   let s<-fY P e
   let r:=(<-pP P e).cells
   if r.length≠s\/s=0 then none else return .jL e (<-zo P e) s r (<-g l) (<-g c)
  |_=>none
 |.slice t x lo hi z=>
  match<-iz P t with
  |.array n e=>if z.isSome&&hi.isNone then none else return .zc n (<-fY P e) (<-g x) (<-nC P nt lo) (<-nC P nt hi) (<-nC P nt z)
  |.slice e=>if z.isSome&&hi.isNone then none else
   let s<-fY P e
   if s=0 then none else return .im e s (<-g x) (<-nC P nt lo) (<-nC P nt hi) (<-nC P nt z)
  |.string=>if z.isSome then none else return .xi (<-g x) (<-nC P nt lo) (<-nC P nt hi)
  |_=>none
 |.fieldAddr t x i=>
  match<-iz P t with
  |.struct fs=>
   let f<-fs[i]?
   if(<-fY P f.type)=0 then none else return .j6 f.offset (<-g x)
  |_=>none
 |.field t x i=>
  match<-iz P t with
  |.struct fs=>
   let f<-fs[i]?
   return .part (<-pi P f.type) f.offset (<-fY P f.type) (<-g x)
  |_=>none
 |.indexAddr t x i=>
  match<-iz P t with
  |.array n e=>return .sJ n (<-fY P e) (<-g x) (<-g i)
  |.slice e=>return .dG (<-fY P e) (<-g x) (<-g i)
  |_=>none
 |.index t x i=>
  match<-iz P t with
  |.array n e=>return .A8 (<-pi P e) n (<-fY P e) (<-g x) (<-g i)
  |.string=>return .nu (<-g x) (<-g i)
  |_=>none
 |.lookup t m k ok=>
  match<-iz P t with
  |.map w e=>return .lookup (<-sO P w) (<-pP P e) ok (<-g m) (<-g k)
  |_=>none
 |.mapUpdate t m k v|.insert t m k v=>
  match<-iz P t with
  |.map w _=>return .jy (<-sO P w) (<-g m) (<-g k) (<-g v)
  |_=>none
 |.mapEntry t m k=>
  match<-iz P t with
  |.map w e=>return .mapEntry (<-sO P w) (<-pP P e) (<-g m) (<-g k)
  |_=>none
 |.entryStore _ m s v=>return .entryStore (<-g m) (<-g s) (<-g v)
 |.range t x=>match<-iz P t with
  |.string=>return .rF (<-g x)
  |.map .. =>return .pe (<-g x)
  |_=>none
 |.entry A=>return .um (<-g A)
 |.next A j=>if j then return .vJ (<-g A)else return .lU (<-g A)
 |.typeAssert x _ t ok=>if(<-iz P t)matches .interface _ then none else return .typeAssert t (<-pP P t) ok (<-g x)
 |.extract x i=>return .extract (<-g x) i
 |.call c=>
  match c.callee with
  |.value f=>return .call (<-g f) (<-vM P nt c.args)
  |.builtin b=>
   let h(i:Nat):Option aJ:=(c.args[i]?).bind g
   match b with
   |.len=>match<-iz P (<-c.argTypes[0]?)with
    |.array n _=>(h 0).bind λ_=>some (.qC n)
    |.pointer e=>match<-iz P e with
     |.array n _=>(h 0).bind λ_=>some (.qC n)
     |_=>none
    |.string=>return .kH (<-h 0)
    |.slice _=>return .j7 (<-h 0)
    |.map .. =>return .xj (<-h 0)
    |_=>none
   |.cap=>match<-iz P (<-c.argTypes[0]?)with
    |.slice _=>return .cap (<-h 0)
    |_=>none
   |.append=>match<-iz P (<-c.argTypes[0]?)with
    |.slice e=>
     let s<-fY P e
     let r:=(<-pP P e).cells
     if r.length≠s\/s=0\/c.args.size≠2 then none else
     let d<-iz P (<-c.argTypes[1]?)
     return .append e (<-zo P e) s r (d matches .int _) (<-h 0) (<-h 1)
    |_=>none
   |.copy=>match<-iz P (<-c.argTypes[0]?)with
    |.slice e=>return .copy (<-fY P e) (<-h 0) (<-h 1)
    |_=>none
   |.clear=>match<-iz P (<-c.argTypes[0]?)with
    |.slice e=>return .zd (<-pP P e).cells (<-h 0)
    |.map .. =>return .ze (<-h 0)
    |_=>none
   |.delete=>match<-iz P (<-c.argTypes[0]?)with
    |.map w _=>return .delete (<-sO P w) (<-h 0) (<-h 1)
    |_=>none
   |.min=>return .qD false (<-vM P nt c.args)
   |.max=>return .qD true (<-vM P nt c.args)
   |_=>none
  |_=>none
 |_=>none
def bW.jf:bW->Bool
 |.store .. |.jy .. |.mapEntry .. |.entryStore .. |.vJ _|.lU _|.pe _|.append .. |.copy .. |.zd .. |.ze .. |.delete .. |.call .. |.pM=>true
 |_=>false
def bW.mO:bW->Bool
 |.box .. |.alloc .. |.buildSlice .. |.xf .. |.jK|.jL .. |.rF _=>true
 |_=>false
def bW.kp:bW->Bool
 |.aW _|.gw .. |.lookup .. |.xj _|.xg _|.im _ _ _ (some _) _ _=>true
 |_=>false
def bW.plain:bW->Bool
 |.bg _|.pick .. |.build .. |.nilCheck _|.arith .. |.shift .. |.iE .. |.eq .. |.unary .. |.kX .. |.A7 _|.lT .. |.iP .. |.zc .. |.xi .. |.j6 .. |.part .. |.sJ .. |.dG ..
 |.A8 .. |.nu .. |.typeAssert .. |.extract .. |.qC _|.kH _|.j7 _|.cap _|.qD .. |.im _ _ _ none _ _=>true
 |_=>false
def aJ.cQ:aJ->List ab
 |.t p=>[p]
 |.c _=>[]
def zq:Option aJ->List ab
 |some x=>x.cQ
 |none=>[]
def bW.cQ:bW->List ab
 |.bg x|.box _ x|.aW x|.gw _ x|.nilCheck x|.unary _ x|.kX _ x|.xf _ x|.xg x|.A7 x|.lT _ x|.j6 _ x|.part _ _ _ x|.rF x|.vJ x|.pe x|.lU x|.um x
 |.typeAssert _ _ _ x|.extract x _|.kH x|.j7 x|.xj x|.cap x|.zd _ x|.ze x=>x.cQ
 |.pick c a b=>c.cQ++(a.cQ++b.cQ)
 |.alloc .. |.jK|.pM|.qC _=>[]
 |.build _ d|.buildSlice _ _ _ d=>d.flatMap λp=>p.2.2.cQ
 |.store _ a x=>a.cQ++x.cQ
 |.arith _ _ x y|.shift _ x y|.iE _ x y|.eq _ _ x y|.sJ _ _ x y|.dG _ x y|.A8 _ _ _ x y|.nu x y|.lookup _ _ _ x y|.mapEntry _ _ x y|.append _ _ _ _ _ x y|.copy _ x y|.delete _ x y|.jL _ _ _ _ x y=>x.cQ++y.cQ
 |.iP _ a b=>a.flatMap aJ.cQ++b.flatMap aJ.cQ
 |.zc _ _ x a b c|.im _ _ x a b c=>x.cQ++(zq a++(zq b++zq c))
 |.xi x a b=>x.cQ++(zq a++zq b)
 |.jy _ m k v=>m.cQ++(k.cQ++v.cQ)
 |.entryStore m s v=>m.cQ++(s.cQ++v.cQ)
 |.qD _ l=>l.flatMap aJ.cQ
 |.call f l=>f.cQ++l.flatMap aJ.cQ
def be.lY(x:be):List ab:=(match x.guard with|some (g,_)=>[g]|none=>[])++x.op.cQ
def zr:Op->Bool
 |.call c=>match c.callee with
  |.value _=>true
  |_=>false
 |_=>false
def bW.Bn:bW->Bool
 |.call .. =>true
 |_=>false
def KS(o:Oper):Option (Option ab):=
 match o.dst with
 |some d=>if d<nt then some (some (ab.dF d))else none
 |none=>some none
def KU(aC:Array Oper)(o:Oper):Option (Option (ab×Bool)):=
 match o.guard with
 |none=>some none
 |some (j,a)=>match(aC[j]?).bind (·.dst)with
  |some d=>if d<nt then some (some (ab.dF d,a))else none
  |none=>none
def sP(aC:Array Oper)(o:Oper):Option be:=
 let rN:=(bU P nt o).getD .pM
 let op:=if rN.Bn&&!zr o.op then .pM else rN
 match KS nt o,KU nt aC o with
 |some dst,some guard=>some {dst,op,guard,jM:=[],re:=[]}
 |_,_=>none
def order(l:List be)(b:Array Nat):(d:Nat)->(done:Nat)->List Nat->List Nat
 |0,_,a=>a.reverse
 |f+1,done,a=>
  let xx(i:Nat):Bool:=!done.testBit i&&((b.getD i 0)&&&done==b.getD i 0)
  let jf(i:Nat):Bool:=match l[i]? with|some o=>o.op.jf|none=>true
  let c:=(ake l.length).filter xx
  match(c.find? λi=>!jf i)<|>c.head? with
  |some i=>order l b f (done|||2^i) (i::a)
  |none=>a.reverse
def Bo(l:List be)(a:Array Nat)(seen:List Nat)(i:Nat):List ab:=
 seen.filterMap λj=>match l[j]? with
  |some r=>if r.op.mO&&!(a.getD i 0).testBit j then r.dst else none
  |none=>none
def kp(l:List be)(a:Array Nat)(seen:List Nat)(i:Nat):List jo:=
 seen.filterMap λj=>match l[j]? with
  |some r=>if r.op.kp&&!(a.getD i 0).testBit j then r.dst.map λd=>⟨d,r.op,r.guard⟩else none
  |none=>none
def Gs(l:List be)(a:Array Nat)(seen:List Nat)(i:Nat)(o:be):be:=
 {o with jM:=if o.op.jf||o.op.kp then Bo l a seen i else[],re:=if o.op.jf then kp l a seen i else[]}
def sQ(l:List be)(a:Array Nat)(seen:List Nat):List Nat->List be
 |[]=>[]
 |i::b=>
  match l[i]? with
  |some o=>Gs l a seen i o::sQ l a (i::seen) b
  |none=>[]
def uy(l:List be)(a:Array Nat)(i j:Nat):Bool:=
 match l[i]?,l[j]? with
 |some x,some y=>
  let b:=(a.getD j 0).testBit i
  i !=j&&!(a.getD i 0).testBit j&&
  (match x.dst with
   |some d=>(match y.dst with|some e=>d !=e|none=>true)&&(b||!y.lY.contains d)
   |none=>true)&&
  (match y.dst with
   |some d=>!x.lY.contains d||(b&&!x.op.kp)
   |none=>true)&&
  (!x.op.jf||(b&&(a.getD i 0&&&a.getD j 0)==a.getD i 0))
 |_,_=>false
def uz(x:be):Bool:=
 x.op.jf||x.op.plain||(match x.dst with
  |some d=>x.op.mO||(x.op.kp&&!x.lY.contains d)
  |none=>false)
def zt(l:List be)(b:Array Nat):List Nat->Bool
 |[]=>true
 |i::a=>(match l[i]? with|some x=>uz x|none=>false)&&a.all (uy l b i)&&zt l b a
def Bp(aC:Array Oper):Bool:=aC.toList.zipIdx.all λp=>p.1.after.all λe=>!Region.binds .any e||decide (e.on<p.2)
def xw(aC:Array Oper)(b:Bool):Option (List be):=do
 let l<-aC.toList.mapM (sP P nt aC)
 if !b then return l
 let a:=Region.before aC
 let ak:=order l a aC.size 0 []
 if(P.follows .mixedOrders||!Region.departs aC)&&Bp aC&&(ake aC.size).all ak.contains&&zt l a ak then return sQ l a [] ak else none
class Ov where
 ez:bt->Option Nat
 code:Nat->bt
 R7:∀b t,ez b=some t->b=code t
variable[Ov]
def eX:Code->Option bt
 |.skip|.label _=>some .skip
 |.region _ aC d=>(xw P nt aC d).map .region
 |.seq a b=>match eX a,eX b with
  |some a,some b=>some (match Ov.ez (.seq a b)with
   |some t=>.ez t
   |none=>.seq a b)
  |_,_=>none
 |.cond c a b=>match hZ P nt c,eX a,eX b with
  |some c,some a,some b=>some (.cond c a b)
  |_,_,_=>none
 |.block id b=>(eX b).map (.block id)
 |.loop b=>(eX b).map .loop
 |.rangeFunc f g as e=>match hZ P nt f,eX as,eX e with
  |some f,some as,some e=>if g.toList.all (·<nt)then some (.rangeFunc f (g.toList.map ab.dF) as e)else none
  |_,_,_=>none
 |.exit id=>some (.exit id)
 |.ret=>some .ret
 |.scope b=>eX b
 |.goto _|.refuse _=>none
def Bq:ResultVar->Option iW
 |.tmp t=>if t<nt then some (.tmp (ab.dF t))else none
 |.cell a t=>match pi P t,fY P t with
  |some g,some s=>if a<nt then some (.cell (ab.dF a) g (if g then s else 1))else none
  |_,_=>none
def uA(f:Func):Option aG:=do
 let b<-f.body
 let b<-eX P f.ntmps b
 let r<-f.results.toList.mapM (Bq P f.ntmps)
 return .code f.ntmps r b
end
end Go.am
namespace Go.am
structure aP where
 f:ab->Option (Nat×Nat)
 k:Nat->Nat×Nat
instance:CoeFun aP λ_=>ab->Option (Nat×Nat):=⟨aP.f⟩
def cL(b a:aP):Prop:=∀i x,b i=some x->a i=some x/\a.k x.1=b.k x.1
theorem cL.refl(a:aP):cL a a:=λ_ _ b=>⟨b,rfl⟩
theorem cL.trans{a b c:aP}(d:cL a b)(k:cL b c):cL a c:=λi x e=>⟨(k i x (d i x e).1).1,(k i x (d i x e).1).2.trans (d i x e).2⟩
mutual
def VR(e:aP):AV->Value->Prop
 |.tuple l,.tuple cs=>bj e l cs.toList
 |.agg l,.agg cs=>bj e l cs.toList
 |.bool a,.bool b=>a=b
 |.int k n,.int j m=>k=kc j/\n=m
 |.str s,.string t=>t.data.toList.map alv=s
 |.az i o,.pointer (some a)=>∃b x,e i=some (b,x)/\a=⟨b,x+o,none⟩
 |.lS,.pointer none=>True
 |.slice i o len cap ex,.slice (some a) n c=>n=len/\len<=cap/\cap<=c/\(ex=true->c=cap)/\∃b x,e i=some (b,x)/\(c≠0->a=⟨b,x+o,none⟩)/\(ex=false->x+o+c*(e.k b).2<=(e.k b).1)
 |.aS,.slice none 0 0=>True
 |.map i,.map (some b)=>e i=some (b,0)
 |.cY,.map none=>True
 |.func f a b,.func (.func g) c d=>f=g/\bj e a c.toList/\bj e b d.toList
 |.yield i,.func (.yield b) c d=>e i=some (b,0)/\c= #[]/\d= #[]
 |.nilFunc,.nilFunc=>True
 |.iface t v,.iface u c=>t=u/\VR e v c
 |.nilIface,.nilIface=>True
 |.co,_=>True
 |_,_=>False
def bj(a:aP):List AV->List Value->Prop
 |[],[]=>True
 |v::l,c::m=>VR a v c/\bj a l m
 |_,_=>False
end
mutual
theorem VR.mono{m j:aP}(s:cL m j):∀(v:AV)(c:Value),VR m v c->VR j v c
 |.tuple l,.tuple cs,k=>by exact bj.mono s l cs.toList k
 |.agg l,.agg cs,k=>by exact bj.mono s l cs.toList k
 |.bool _,.bool _,k=>by simpa only[VR]using k
 |.int _ _,.int _ _,k=>by simpa only[VR]using k
 |.str _,.string _,k=>by simpa only[VR]using k
 |.az i o,.pointer (some a),k=>by
  obtain⟨b,x,e,rfl⟩:=k;exact⟨b,x,(s _ _ e).1,rfl⟩
 |.lS,.pointer none,_=>by simp only[VR]
 |.slice i o len cap ex,.slice (some a) n c,k=>by
  obtain⟨h1,h2,h3,p,b,x,e,q,r⟩:=k;exact⟨h1,h2,h3,p,b,x,(s _ _ e).1,q,by rw[show j.k b=m.k b from(s _ _ e).2];exact r⟩
 |.aS,.slice none 0 0,_=>by simp only[VR]
 |.map i,.map (some b),k=>by simp only[VR]at k⊢;exact(s _ _ k).1
 |.cY,.map none,_=>by simp only[VR]
 |.func f a b,.func (.func g) c d,k=>by
  simp only[VR]at k⊢;exact⟨k.1,bj.mono s a c.toList k.2.1,bj.mono s b d.toList k.2.2⟩
 |.yield i,.func (.yield b) c d,k=>by simp only[VR]at k⊢;exact⟨(s _ _ k.1).1,k.2⟩
 |.nilFunc,.nilFunc,_=>by simp only[VR]
 |.iface t v,.iface u c,k=>by simp only[VR]at k⊢;exact⟨k.1,VR.mono s v c k.2⟩
 |.nilIface,.nilIface,_=>by simp only[VR]
 |.co,_,_=>by simp only[VR]
theorem bj.mono{b a:aP}(d:cL b a):∀(l:List AV)(m:List Value),bj b l m->bj a l m
 |[],[],_=>by simp only[bj]
 |v::l,c::m,k=>by simp only[bj]at k⊢;exact⟨VR.mono d v c k.1,bj.mono d l m k.2⟩
end
theorem bj.length{a:aP}:∀{l:List AV}{m:List Value},bj a l m->l.length=m.length|[],[],_=>rfl|_::_,_::_,k=>by simp[bj.length k.2]|[],_::_,k=>by trivial|_::_,[],k=>by trivial
theorem bj.append{a:aP}:∀{l:List AV}{m:List Value}{b:List AV}{c:List Value},bj a l m->bj a b c->bj a (l++b) (m++c)|[],[],_,_,_,d=>by grind|_::_,_::_,_,_,k,d=>by exact⟨k.1,bj.append k.2 d⟩|[],_::_,_,_,k,_=>by trivial|_::_,[],_,_,k,_=>by trivial
theorem bj.get{b:aP}:∀{l:List AV}{m:List Value},bj b l m->∀(i:Nat)(v:AV),l[i]?=some v->∃c,m[i]?=some c/\VR b v c|[],[],_,i,v,d=>by grind|a::l,c::m,k,0,v,d=>by simp_all[bj]|a::l,c::m,k,i+1,v,d=>by simpa using bj.get k.2 i v d|[],_::_,k,_,_,_=>by grind|_::_,[],k,_,_,_=>by trivial
theorem bj.Gt{b:aP}:∀{l:List AV}{m:List Value},l.length=m.length->(∀(i:Nat)(v:AV)(c:Value),l[i]?=some v->m[i]?=some c->VR b v c)->bj b l m|[],[],_,_=>by trivial|a::l,c::m,d,k=>by exact⟨k 0 a c (by rfl) (by rfl),bj.Gt (by grind) λi v c h1 h2=>k (i+1) v c (by grind) (by grind)⟩|[],_::_,d,_=>by grind|_::_,[],d,_=>by grind
theorem bj.take{a:aP}:∀{l:List AV}{m:List Value}(n:Nat),bj a l m->bj a (l.take n) (m.take n)|[],[],n,_=>by grind|_::_,_::_,0,_=>by trivial|_::_,_::_,n+1,k=>by exact⟨k.1,bj.take n k.2⟩|[],_::_,_,k=>by trivial|_::_,[],_,k=>by trivial
theorem bj.drop{a:aP}:∀{l:List AV}{m:List Value}(n:Nat),bj a l m->bj a (l.drop n) (m.drop n)|[],[],n,_=>by grind|_::_,_::_,0,k=>by grind|_::_,_::_,n+1,k=>by exact bj.drop n k.2|[],_::_,_,k=>by trivial|_::_,[],_,k=>by trivial
theorem VR.cells{a:aP}{v:AV}{c:Value}(b:VR a v c)(hd:v.bB=true):bj a v.cells c.cells.toList:=by cases v<;>cases c<;>first|(simp[VR]at b;done)|(simp[AV.bB]at hd;done)|(simp only[AV.cells,Value.cells,bj,VR]at b⊢;first|exact b|exact⟨b,trivial⟩)
theorem VR.ee{a:aP}{v:AV}{c:Value}(b:VR a v c)(k:v.ee=true):(∀l,c≠.agg l)/\∀l,c≠.tuple l:=by cases v<;>cases c<;>simp_all[VR,AV.ee]
namespace ap
variable{h:Type}(d:h)
theorem aF(x:h):∀(p q:ab)(t:ap h),(t.set d q x).get d p=if p=q then x else t.get d p|.xH,.xH,t=>by rfl|.xH,.xO q,t=>by rfl|.xH,.xI q,t=>by rfl|.xO p,.xH,t=>by rfl|.xI p,.xH,t=>by rfl|.xO p,.xO q,t=>by simp[set,get,left,aF x p q]|.xI p,.xI q,t=>by simp[set,get,right,aF x p q]|.xO p,.xI q,t=>by rfl|.xI p,.xO q,t=>by rfl
theorem ahA(n:Nat):(ap.aL:ap h).bw d n=d:=by rfl
theorem KW(t:ap h):t.bw d 0=t.val d:=by cases t<;>rfl
theorem Br(t:ap h)(m:Nat)(a:m % 2=0):t.bw d (m+1)=t.left.bw d (m/2):=by cases t with|aL=>rfl|node l v r=>simp[a,bw,left]
theorem Bs(t:ap h)(m:Nat)(a:¬m % 2=0):t.bw d (m+1)=t.right.bw d (m/2):=by cases t with|aL=>rfl|node l v r=>simp[a,bw,right]
theorem Gu(x:h):∀(f n:Nat)(t:ap h)(j:Nat),n<=f->(t.oH d f n x).bw d j=if j=n then x else t.bw d j
 |f,0,t,j,_=>by
  rw[show t.oH d f 0 x=.node t.left x t.right by cases f<;>rfl];cases j with
  |zero=>simp[bw]
  |succ m=>
   simp only[bw,Nat.succ_ne_zero,bP];split;·rename_i c;rw[Br d t m c]
   rename_i c;rw[Bs d t m c]
 |0,n+1,_,_,c=>by omega
 |f+1,n+1,t,j,c=>by
  by_cases b:n % 2=0
  .rw[show t.oH d (f+1) (n+1) x=.node (oH d f (n/2) x t.left) (t.val d) t.right by simp[oH,b]];cases j with
   |zero=>simp[bw,KW]
   |succ m=>
    by_cases a:m % 2=0
    .rw[Br d _ m a,left,Gu x f (n/2) t.left (m/2) af,Br d t m a];by_cases e:m=n;·simp[e]
     rw[aq af,aq af]
    rw[Bs d _ m a,right,Bs d t m a,aq af]
  rw[show t.oH d (f+1) (n+1) x=.node t.left (t.val d) (oH d f (n/2) x t.right)by simp[oH,b]];cases j with
  |zero=>simp[bw,KW]
  |succ m=>
   by_cases a:m % 2=0;·rw[Br d _ m a,left,Br d t m a,aq af]
   rw[Bs d _ m a,right,Gu x f (n/2) t.right (m/2) af,Bs d t m a];by_cases e:m=n;·simp[e]
   rw[aq af,aq af]
end ap
def ab.an:ab->Nat
 |.xH=>1
 |.xO p=>2*p.an
 |.xI p=>2*p.an+1
theorem ab.uB:∀p:ab,0<p.an|.xH=>by trivial|.xO p=>by have:=p.uB;simp_all[an]|.xI p=>by simp[an]
theorem ab.uC:∀{p q:ab},p.an=q.an->p=q|.xH,.xH,_=>rfl|.xH,.xO q,a=>by have:=q.uB;simp only[an]at a;omega|.xH,.xI q,a=>by have:=q.uB;simp only[an]at a;omega|.xO p,.xH,a=>by have:=p.uB;simp only[an]at a;omega|.xI p,.xH,a=>by have:=p.uB;simp only[an]at a;omega|.xO p,.xO q,a=>by simp only[an]at a;rw[ab.uC (p:=p) (q:=q) af]|.xI p,.xI q,a=>by simp only[an]at a;rw[ab.uC (p:=p) (q:=q) af]|.xO p,.xI q,a=>by simp only[an]at a;omega|.xI p,.xO q,a=>by simp only[an]at a;omega
theorem ab.gK:∀p:ab,p.succ.an=p.an+1|.xH=>rfl|.xO p=>rfl|.xI p=>by simp only[succ,an,ab.gK p];rfl
theorem ab.ml:∀t,(ab.dF t).an=t+1|0=>rfl|t+1=>by rw[dF,gK,ml t]
theorem ab.bM{a b:Nat}(c:ab.dF a=ab.dF b):a=b:=by have:=congrArg ab.an c;grind[ml]
theorem ab.ip:∀{p q:ab},ab.beq p q=true↔p=q|.xH,.xH=>by trivial|.xH,.xO q=>by simp[beq]|.xH,.xI q=>by simp[beq]|.xO p,.xH=>by simp[beq]|.xI p,.xH=>by simp[beq]|.xO p,.xO q=>by simp[beq,ab.ip (p:=p) (q:=q)]|.xI p,.xI q=>by simp[beq,ab.ip (p:=p) (q:=q)]|.xO p,.xI q=>by simp[beq]|.xI p,.xO q=>by simp[beq]
def jg(b:aP)(a:Nat)(aa:ap AV)(tmps:Array Value):Prop:=
 tmps.size=a/\∀t,t<a->VR b (aa.get .alR (ab.dF t)) (tmps.getD t undef)
theorem jg.mono{b a:aP}{nt:Nat}{aa:ap AV}{tmps:Array Value}(d:cL b a)(k:jg b nt aa tmps):jg a nt aa tmps:=⟨k.1,λt c=>VR.mono d _ _ (k.2 t c)⟩
theorem jg.set{a:aP}{b:Nat}{aa:ap AV}{tmps:Array Value}{v:AV}{c:Value}{d:Nat}(k:jg a b aa tmps)(i:VR a v c):jg a b (aa.set .alR (ab.dF d) v) (tmps.setIfInBounds d c):=by
 refine⟨by simp[k.1],λt f=>?_⟩;rw[ap.aF];by_cases e:t=d
 .subst e;have:t<tmps.size:=by rw[k.1];exact f
  simp_all
 have g:ab.dF t≠ab.dF d:=λj=>e (ab.bM j);rw[aq g];have:=k.2 t f;simp_all[undef,Array.getD,alI]
theorem VR.alR(a:aP):VR a AV.alR Go.undef:=by trivial
end Go.am
namespace Go.am
section
variable[Ov]
section
def cq.aM:cq->List ab
 |.cells _ _ _ _ aM _=>aM
 |_=>[]
def cq.lz:cq->Bool
 |.cells _ _ _ rw _ _=>!rw
 |_=>false
def cr(a:aP):List aT->List MapEntry->Prop
 |[],[]=>True
 |e::l,c::m=>VR a e.key c.key/\VR a e.val c.val/\e.born=c.born/\cr a l m
 |_,_=>False
def dP(a:aP):List aT->List MapEntry->Prop
 |[],[]=>True
 |e::l,c::m=>VR a e.key c.key/\VR a e.val c.val/\dP a l m
 |_,_=>False
def qG:sK->LoopState->Prop
 |.ready,.ready|.busy,.busy|.done,.done|.exhausted,.exhausted=>True
 |_,_=>False
def qH:cP->Option Code->Prop
 |.none,none=>True
 |.exit i,some (.exit j)=>i=j
 |.ret,some .ret=>True
 |_,_=>False
def pQ(a:aP):Option ab->Option Nat->Prop
 |none,none=>True
 |some i,some b=>a i=some (b,0)
 |_,_=>False
def cq.len:cq->Nat
 |.cells _ n _ _ _ _=>n
 |_=>0
variable(P:Program)
def ke(bx:Array MapEntry)(k:Nat):Prop:=(bx.toList.map (·.born)).Nodup/\∀c∈bx.toList,c.born<k
def OR(g:aP):cq->Nat->Obj->Prop
 |.cells c n e rw _ fz,off,.cells cs u fr=>u=e/\off+n<=cs.size/\(∀i,i<n->∃x,cs[off+i]?=some x/\VR g (c.bw .alR i) x)/\
   (rw=true->∀i,off+fz<=i->i<cs.size->¬(fr.1<=i/\i<fr.2))
 |.map es a,off,.map bx k=>off=0/\k=a/\ke bx k/\cr g es bx.toList
 |.dI es,off,.map bx k=>off=0/\ke bx k/\∃l:List MapEntry,l.Perm bx.toList/\dP g es l
 |.pf s j h,off,.stringIter bs p=>off=0/\p=h/\bs.data.toList.map alv=s/\j=s.drop h
 |.loop st cB _ aa v as w d,off,.loop r=>off=0/\qG st r.state/\qH cB r.pending/\g d=some (r.defers,0)/\
   r.params.toList.map ab.dF=v/\∃q,jg g q aa r.tmps/\(∀p∈r.params.toList,p<q)/\eX P q r.assign=some as/\eX P q r.body=some w
 |.deferred b,off,.deferred cs=>off=0/\(b=false->cs=some [])
 |.mapIter m f seen o,off,.mapIter y s z t=>off=0/\pQ g m y/\s=f/\z.toList=seen/\t=o
 |_,_,_=>False
theorem cr.mono{b a:aP}(h:cL b a):∀{l:List aT}{m:List MapEntry},cr b l m->cr a l m|[],[],_=>by trivial|_::_,_::_,k=>by exact⟨VR.mono h _ _ k.1,VR.mono h _ _ k.2.1,k.2.2.1,cr.mono h k.2.2.2⟩|[],_::_,k=>by trivial|_::_,[],k=>by trivial
theorem ke.empty:ke #[] 0:=⟨aB,λc h=>by grind⟩
theorem ke.modify{bx:Array MapEntry}{k:Nat}(h:ke bx k)(i:Nat){f:MapEntry->MapEntry}(g:∀e,(f e).born=e.born):ke (bx.modify i f) k:=by
 have:∀(l:List MapEntry)(i:Nat),(l.modify i f).map (·.born)=l.map (·.born):=by intro l;induction l with|nil=>intro i;cases i<;>rfl|cons a l j=>intro i;cases i with|zero=>simp[g]|succ i=>simp[j]
 refine⟨by rw[Array.toList_modify,this];exact h.1,λc m=>?_⟩;have b:c.born∈(bx.toList.modify i f).map (·.born):=akp (by rw[<-Array.toList_modify];exact m);rw[this,akk]at b;obtain⟨d,hd,e⟩:=b;rw[<-e];exact h.2 d hd
theorem ke.push{bx:Array MapEntry}{k:Nat}(h:ke bx k){e:MapEntry}(he:e.born=k):ke (bx.push e) (k+1):=by
 refine⟨?_,λc f=>?_⟩;·rw[Array.toList_push,akE,akI];refine⟨h.1,aB,λa g b hb=>?_⟩;simp only[aj7,ali,aep]at hb;rw[akk]at g;obtain⟨d,hd,rfl⟩:=g;have:=h.2 d hd;omega
 rw[Array.toList_push,ahp]at f;rcases f with f|f;·have:=h.2 c f;omega
 grind
theorem ke.erase{bx:Array MapEntry}{k:Nat}(h:ke bx k)(i:Nat):ke (bx.eraseIdxIfInBounds i) k:=by
 refine⟨?_,λc a=>?_⟩;·rw[Array.toList_eraseIdxIfInBounds];exact h.1.sublist ((List.eraseIdx_sublist _ _).map _)
 rw[Array.toList_eraseIdxIfInBounds]at a;exact h.2 c ((List.eraseIdx_sublist _ _).subset a)
theorem ke.clear{k:Nat}:ke #[] k:=⟨aB,λc h=>by grind⟩
theorem dP.mono{b a:aP}(h:cL b a):∀{l:List aT}{m:List MapEntry},dP b l m->dP a l m|[],[],_=>by trivial|_::_,_::_,k=>by exact⟨VR.mono h _ _ k.1,VR.mono h _ _ k.2.1,dP.mono h k.2.2⟩|[],_::_,k=>by trivial|_::_,[],k=>by trivial
variable{P}
theorem OR.mono{c a:aP}(h:cL c a){o:cq}{off:Nat}{b:Obj}(k:OR P c o off b):OR P a o off b:=by
 cases o<;>cases b<;>simp only[OR]at k⊢;·grind[VR.mono]
 .grind[cr.mono]
 .grind[dP.mono]
 .omega
 .obtain⟨h1,h2,h3,d,e,nt,f,g⟩:=k;exact⟨h1,h2,h3,(h _ _ d).1,e,nt,jg.mono h f,g⟩
 .omega
 refine⟨k.1,?_,k.2.2⟩;have:=k.2.1;rename_i m _ _ _ i _ _ _;cases m<;>cases i<;>simp only[pQ]at this⊢;exact(h _ _ this).1
structure cU where
 w:Nat->Prop
 r:Nat->Prop
 un:ab->Prop
 fc:ab->Prop
structure eC(Wr:cU)(w w':World):Prop where
 os:w'.os=w.os
 tape:w'.tape=w.tape
 output:w'.output=w.output
 size:w.heap.size<=w'.heap.size
 block:∀k,k<w.heap.size->¬Wr.w k->w'.heap[k]?=w.heap[k]?
theorem eC.refl(a:cU)(w:World):eC a w w:=⟨rfl,rfl,rfl,afb _,λ_ _ _=>rfl⟩
theorem eC.trans{d:cU}{a b c:World}(h:eC d a b)(k:eC d b c):eC d a c:=⟨k.os.trans h.os,k.tape.trans h.tape,k.output.trans h.output,alj h.size k.size,λi hi e=>(k.block i (ako hi h.size) e).trans (h.block i hi e)⟩
theorem eC.drew{b:cU}{w a:World}(h:eC b w a):eC b w {a with drawn:=a.drawn+1}:=⟨h.os,h.tape,h.output,h.size,h.block⟩
variable(P)
def gS(q:Nat×Nat):cq->Obj->Prop
 |.cells _ _ e _ _ _,.cells cs _ _=>q=(cs.size,(fY P e).getD 0)
 |_,_=>True
structure bz(Wr:cU)(ρ:aP)(H:ai)(w:World):Prop where
 eF:∀i,H.get i≠.none->∃b x ob,ρ i=some (b,x)/\w.heap[b]?=some ob/\OR P ρ (H.get i) x ob
 k6:∀i j b x y,i≠j->H.get i≠.none->H.get j≠.none->ρ i=some (b,x)->ρ j=some (b,y)->(i∈(H.get j).aM/\x+(H.get i).len<=y+(H.get j).len)\/(j∈(H.get i).aM/\y+(H.get j).len<=x+(H.get i).len)
 aM:∀i j,i∈(H.get j).aM->i.an<H.next.an/\(H.get i≠.none->(H.get i).lz=true)
 wr:∀i b x,H.get i≠.none->(H.get i).lz=false->ρ i=some (b,x)->Wr.w b
 eo:∀i,H.next.an<=i.an->H.get i=.none/\ρ i=none
 new:∀k,w.heap.size<=k->Wr.w k/\Wr.r k
 mq:∀g,g<P.globals.size->ρ (ab.dF g)=some (g,0)
 ka:∀i b x ob,H.get i≠.none->ρ i=some (b,x)->w.heap[b]?=some ob->gS P (ρ.k b) (H.get i) ob
 fH:∀i b x,ρ i=some (b,x)->b<w.heap.size
 rd:∀i b x,H.get i≠.none->ρ i=some (b,x)->Wr.r b
 un:∀i,Wr.un i->H.get i=.none/\i.an<H.next.an/\∀j,i∉(H.get j).aM
 fc:∀i,Wr.fc i->Wr.un i/\ρ i=none
variable{P}
theorem bz.drew{a:cU}{b:aP}{H:ai}{w:World}(h:bz P a b H w):bz P a b H {w with drawn:=w.drawn+1}:=⟨h.eF,h.k6,h.aM,h.wr,h.eo,h.new,h.mq,h.ka,h.fH,h.rd,h.un,h.fc⟩
theorem ai.aF(H:ai)(i j:ab)(o:cq):(H.set i o).get j=if j=i then o else H.get j:=ap.aF _ _ _ _ _
theorem ai.dJ(H:ai)(j:ab)(o:cq):(H.new o).get j=if j=H.next then o else H.get j:=ap.aF _ _ _ _ _
theorem ai.gD(H:ai)(i:ab)(o:cq):(H.set i o).next=H.next:=rfl
theorem ai.xy:∀(l:List ab)(H:ai)(j:ab),(H.gh l).get j=if j∈l then .none else H.get j|[],H,j=>by simp[ai.gh]|i::l,H,j=>by rw[ai.gh,ai.xy l,ai.aF];by_cases h:j∈l<;>by_cases e:j=i<;>simp[h,e]
theorem ai.kf:∀(l:List ab)(H:ai),(H.gh l).next=H.next|[],_=>rfl|i::l,H=>by rw[ai.gh,ai.kf l];rfl
def aP.add(a:aP)(i:ab)(b x:Nat)(q:Nat×Nat):aP:=⟨λj=>if j=i then some (b,x)else a j,λc=>if c=b then q else a.k c⟩
theorem aP.fP(a:aP)(i:ab)(b x:Nat)(q:Nat×Nat):a.add i b x q i=some (b,x):=by simp[aP.add]
theorem aP.uD(a:aP)(i:ab)(b x:Nat)(q:Nat×Nat):(a.add i b x q).k b=q:=by simp[aP.add]
theorem aP.sR{a:aP}{i:ab}(b x:Nat)(q:Nat×Nat)(h:a i=none)(hb:∀j c y,a j=some (c,y)->c=b->a.k b=q):cL a (a.add i b x q):=by
 intro j y e;refine⟨?_,?_⟩;·show(if j=i then some (b,x)else a j)=some y;grind
 show(if y.1=b then q else a.k y.1)=a.k y.1;grind
theorem bz.alloc{v:cU}{n:aP}{H:ai}{w:World}(h:bz P v n H w){o:cq}{ob:Obj}(q:Nat×Nat)(hq:gS P q o ob)(K:o≠.none)(D:o.aM=[])(z:OR P (n.add H.next w.heap.size 0 q) o 0 ob):cL n (n.add H.next w.heap.size 0 q)/\bz P v (n.add H.next w.heap.size 0 q) (H.new o) {w with heap:=w.heap.push ob}/\eC v w {w with heap:=w.heap.push ob}:=by
 have G:=h.eo H.next (afb _);have d:cL n (n.add H.next w.heap.size 0 q):=aP.sR w.heap.size 0 q G.2 (λj c y e L=>by have:=h.fH j c y e;omega);have r:∀i,H.get i≠.none->∃b x ob,n i=some (b,x)/\b<w.heap.size/\w.heap[b]?=some ob/\OR P n (H.get i) x ob:=by
  intro i hi;obtain⟨b,x,ob,e,hb,z⟩:=h.eF i hi;refine⟨b,x,ob,e,?_,hb,z⟩;rcases akW b w.heap.size with hl|hl;·exact hl
  simp[akX hl]at hb
 refine⟨d,⟨?_,?_,?_,?_,?_,?_,?_,?_,?_,?_,?_,?_⟩,⟨rfl,rfl,rfl,aB,?_⟩⟩
 .intro i hi;rw[ai.dJ]at hi⊢;by_cases e:i=H.next;·subst e;rw[aK rfl];exact⟨w.heap.size,0,ob,aP.fP ..,aB,z⟩
  rw[aq e]at hi⊢;obtain⟨b,x,p,s,hl,hb,B⟩:=r i hi;refine⟨b,x,p,(d _ _ s).1,?_,OR.mono d B⟩;show(w.heap.push ob)[b]?=_;rw[ale,aq af];exact hb
 .intro i j b x y t hi hj l m;rw[ai.dJ]at hi hj;rw[ai.dJ,ai.dJ];by_cases e1:i=H.next;·subst e1;have e2:j≠H.next:=λh=>t h.symm;rw[aq e2]at hj;obtain⟨I,J,_,s,hl,_⟩:=r j hj;rw[aP.fP]at l;have:=(d _ _ s).1;rw[this]at m;injection l with l;injection m with m;injection l with l _;injection m with m _;omega
  by_cases e2:j=H.next;·subst e2;rw[aq e1]at hi;obtain⟨I,J,_,s,hl,_⟩:=r i hi;rw[aP.fP]at m;have:=(d _ _ s).1;rw[this]at l;injection l with l;injection m with m;injection l with l _;injection m with m _;omega
  rw[aq e1]at hi⊢;rw[aq e2]at hj⊢;simp only[aP.add,aq e1,aq e2]at l m;exact h.k6 i j b x y t hi hj l m
 .intro i j hj;rw[ai.dJ]at hj;by_cases e2:j=H.next;·rw[aK e2,D]at hj;cases hj
  rw[aq e2]at hj;obtain⟨h1,h2⟩:=h.aM i j hj;have e1:i≠H.next:=λe=>by subst e;omega
  rw[ai.dJ,aq e1];refine⟨?_,h2⟩;show i.an<H.next.succ.an;rw[ab.gK];omega
 .intro i b x hi A e;rw[ai.dJ]at hi A;by_cases e1:i=H.next;·subst e1;rw[aP.fP]at e;injection e with e;injection e with e _;exact(h.new b af).1
  rw[aq e1]at hi A;simp only[aP.add,aq e1]at e;exact h.wr i b x hi A e
 .intro i hi;have C:H.next.succ.an<=i.an:=hi;rw[ab.gK]at C;have u:i≠H.next:=λe=>by subst e;omega
  rw[ai.dJ,aq u];obtain⟨a,b⟩:=h.eo i af;exact⟨a,by simp[aP.add,u,b]⟩
 .intro k E;exact h.new k (by simp at E;omega)
 .intro g hg;exact(d _ _ (h.mq g hg)).1
 .intro i b x p hi e hb;rw[ai.dJ]at hi⊢;by_cases e1:i=H.next;·subst e1;rw[aP.fP]at e;injection e with e;injection e with e _;subst e;rw[aK rfl,aP.uD];have f:(w.heap.push ob)[w.heap.size]?=some p:=hb;rw[ale,aK rfl]at f;injection f with f;rw[<-f];exact hq
  rw[aq e1]at hi⊢;simp only[aP.add,aq e1]at e;have F:=h.fH i b x e;have f:(w.heap.push ob)[b]?=some p:=hb;rw[ale,aq af]at f;rw[show(n.add H.next w.heap.size 0 q).k b=n.k b from(d _ _ e).2];exact h.ka i b x p hi e f
 .intro i b x e;show b<(w.heap.push ob).size;rw[Array.size_push];by_cases e1:i=H.next;·subst e1;rw[aP.fP]at e;injection e with e;injection e with e _;omega
  simp only[aP.add,aq e1]at e;have:=h.fH i b x e;omega
 .intro i b x hi e;rw[ai.dJ]at hi;by_cases e1:i=H.next;·subst e1;rw[aP.fP]at e;injection e with e;injection e with e _;exact(h.new b af).2
  rw[aq e1]at hi;simp only[aP.add,aq e1]at e;exact h.rd i b x hi e
 .intro i hi;obtain⟨h1,h2,h3⟩:=h.un i hi;have e1:i≠H.next:=λe=>by subst e;omega
  refine⟨by rw[ai.dJ,aq e1];exact h1,?_,λj hj=>?_⟩;·show i.an<H.next.succ.an;rw[ab.gK];omega
  rw[ai.dJ]at hj;by_cases e2:j=H.next;·rw[aK e2,D]at hj;cases hj
  rw[aq e2]at hj;exact h3 j hj
 .intro i hi;obtain⟨h1,h2⟩:=h.fc i hi;have e1:i≠H.next:=λe=>by have:=(h.un i h1).2.1;subst e;omega
  exact⟨h1,by simp[aP.add,e1,h2]⟩
 intro k E _;show(w.heap.push ob)[k]?=_;rw[ale,aq af]
theorem bz.aH{d:cU}{a:aP}{H:ai}{w:World}(h:bz P d a H w){i:ab}(hi:H.get i≠.none):∃b x c,a i=some (b,x)/\b<w.heap.size/\w.heap[b]?=some c/\OR P a (H.get i) x c:=by obtain⟨b,x,c,e,hb,f⟩:=h.eF i hi;grind
theorem bz.Dt{a:cU}{b:aP}{H:ai}{w:World}(h:bz P a b H w){i:ab}(hi:H.get i≠.none):i.an<H.next.an:=by
 rcases akW i.an H.next.an with hl|hl;·omega
 exact absurd (h.eo i hl).1 hi
theorem bz.sS{E:cU}{A:aP}{H:ai}{w:World}(h:bz P E A H w){i:ab}{b x:Nat}{o':cq}{ob':Obj}(hi:H.get i≠.none)(q:(H.get i).lz=false)(hb:A i=some (b,x))(O:o'.aM=[])(R:OR P A o' x ob')(S:gS P (A.k b) o' ob'){w':World}(s:w'.heap=w.heap.setIfInBounds b ob')(G:w'.os=w.os)(I:w'.tape=w.tape)(J:w'.output=w.output):bz P E A ((H.gh (H.get i).aM).set i o') w'/\eC E w w':=by
 obtain⟨W,X,Y,C,hl,T,V⟩:=h.aH hi;rw[hb]at C;injection C with C;injection C with e1 e2;subst e1;have d:∀j,((H.gh (H.get i).aM).set i o').get j=if j=i then o' else if j∈(H.get i).aM then .none else H.get j:=by intro j;rw[ai.aF,ai.xy]
 have a:∀j,j≠i->(if j∈(H.get i).aM then cq.none else H.get j)≠.none->j∉(H.get i).aM/\H.get j≠.none:=by
  intro j _ hj;by_cases m:j∈(H.get i).aM;·rw[aK m]at hj;exact absurd rfl hj
  rw[aq m]at hj;exact⟨m,hj⟩
 have r:∀j y c,j≠i->j∉(H.get i).aM->H.get j≠.none->A j=some (c,y)->c≠b:=by
  intro j y c K L hj g p;subst p;rcases h.k6 i j c x y (λe=>K e.symm) hi hj hb g with⟨m,_⟩|⟨m,_⟩;·have:=(h.aM i j m).2 hi;rw[q]at this;cases this
  exact L m
 refine⟨⟨?_,?_,?_,?_,?_,?_,?_,?_,?_,?_,?_,?_⟩,⟨G,I,J,by rw[s];simp,?_⟩⟩
 .intro j hj;rw[d]at hj⊢;by_cases e:j=i;·subst e;rw[aK rfl];exact⟨b,x,ob',hb,by rw[s,akr];simp[hl],R⟩
  rw[aq e]at hj⊢;obtain⟨m,f⟩:=a j e hj;rw[aq m];obtain⟨c,y,F,Q,p,M⟩:=h.eF j f;have:=r j y c e m f Q;exact⟨c,y,F,Q,by rw[s,akr,aq (λh=>this h.symm)];exact p,M⟩
 .intro j k c y z B hj l g t;rw[d]at hj l;rw[d,d];by_cases e1:j=i;·subst e1;have e2:k≠j:=λh=>B h.symm;rw[aq e2]at l;obtain⟨m,u⟩:=a k e2 l;rw[hb]at g;injection g with g;injection g with g _;exact absurd g.symm (r k z c e2 m u t)
  by_cases e2:k=i;·subst e2;rw[aq e1]at hj;obtain⟨m,f⟩:=a j e1 hj;rw[hb]at t;injection t with t;injection t with t _;exact absurd t.symm (r j y c e1 m f g)
  rw[aq e1]at hj⊢;rw[aq e2]at l⊢;obtain⟨o,f⟩:=a j e1 hj;obtain⟨n,u⟩:=a k e2 l;rw[aq o,aq n];exact h.k6 j k c y z B f u g t
 .intro j k l;rw[d]at l;have v:((H.gh (H.get i).aM).set i o').next=H.next:=by rw[ai.gD,ai.kf]
  rw[v];by_cases e2:k=i;·rw[aK e2,O]at l;cases l
  rw[aq e2]at l;by_cases n:k∈(H.get i).aM;·rw[aK n]at l;cases l
  rw[aq n]at l;obtain⟨h1,h2⟩:=h.aM j k l;refine⟨h1,λhj=>?_⟩;rw[d]at hj⊢;by_cases e1:j=i;·subst e1;have:=h2 hi;rw[q]at this;cases this
  rw[aq e1]at hj⊢;obtain⟨o,f⟩:=a j e1 hj;rw[aq o];exact h2 f
 .intro j c y hj D g;rw[d]at hj D;by_cases e1:j=i;·subst e1;exact h.wr j c y hi q g
  rw[aq e1]at hj D;obtain⟨o,f⟩:=a j e1 hj;rw[aq o]at D;exact h.wr j c y f D g
 .intro j hj;have f:H.next.an<=j.an:=by rw[ai.gD,ai.kf]at hj;exact hj
  obtain⟨h1,h2⟩:=h.eo j f;refine⟨?_,h2⟩;rw[d];by_cases e1:j=i;·subst e1;exact absurd h1 hi
  rw[aq e1];split;·rfl
  exact h1
 .intro k l;exact h.new k (by rw[s]at l;simpa using l)
 .exact h.mq
 .intro j c y F hj g p;rw[d]at hj⊢;by_cases e:j=i;·subst e;rw[aK rfl];rw[hb]at g;injection g with g;injection g with g _;subst g;rw[s,akr]at p;simp only[hl,bq,adG]at p;rw[<-p];exact S
  rw[aq e]at hj⊢;obtain⟨m,f⟩:=a j e hj;rw[aq m];have:=r j y c e m f g;rw[s,akr,aq (λh=>this h.symm)]at p;exact h.ka j c y F f g p
 .intro j c y g;rw[s,Array.size_setIfInBounds];exact h.fH j c y g
 .intro j c y hj g;rw[d]at hj;by_cases e:j=i;·subst e;exact h.rd j c y hi g
  rw[aq e]at hj;exact h.rd j c y (a j e hj).2 g
 .intro j hj;have v:((H.gh (H.get i).aM).set i o').next=H.next:=by rw[ai.gD,ai.kf]
  rw[v];obtain⟨h1,h2,h3⟩:=h.un j hj;refine⟨?_,h2,λk l=>?_⟩;·rw[d,aq (λe=>hi (by rw[<-e];exact h1)),h1];split<;>rfl
  rw[d]at l;by_cases e2:k=i;·rw[aK e2,O]at l;cases l
  rw[aq e2]at l;by_cases n:k∈(H.get i).aM;·rw[aK n]at l;cases l
  rw[aq n]at l;exact h3 k l
 .exact h.fc
 intro k l N;have:k≠b:=λe=>N (e▸h.wr i b x hi q hb);rw[s,akr,aq (λh=>this h.symm)]
theorem bz.zu{a:cU}{b:aP}{H:ai}{w c:World}(h:bz P a b H w)(e:c.heap=w.heap):bz P a b H c:=⟨by rw[e];exact h.eF,h.k6,h.aM,h.wr,h.eo,by rw[e];exact h.new,h.mq,by rw[e];exact h.ka,by rw[e];exact h.fH,h.rd,h.un,h.fc⟩
theorem eC.zu{g:cU}{w a b:World}(h:eC g w a)(e:b.heap=a.heap)(c:b.os=a.os)(d:b.tape=a.tape)(f:b.output=a.output):eC g w b:=⟨c.trans h.os,d.trans h.tape,f.trans h.output,by rw[e];exact h.size,λk h1 h2=>by rw[e];exact h.block k h1 h2⟩
end
section
variable{P:Program}
theorem uE(b o i:Nat):(⟨b,o,none⟩:Addr).add i=⟨b,o+i,none⟩:=by simp[Addr.add]
theorem Gv(w:World){b:Nat}{cs:Array Value}{a:TypeId}{fr:Nat×Nat}(h:w.heap[b]?=some (.cells cs a fr))(o:Nat):w.cell? ⟨b,o,none⟩=cs[o]?:=by simp[h,World.cell?]
theorem R8(w:World){b:Nat}{cs:Array Value}{a:TypeId}{fr:Nat×Nat}(h:w.heap[b]?=some (.cells cs a fr))(o:Nat):w.frozen? ⟨b,o,none⟩=(decide (fr.1<=o)&&decide (o<fr.2)):=by simp[h,World.frozen?]
theorem R9(w:World){b o:Nat}{v:Value}(h:w.cell? ⟨b,o,none⟩=some v):(load ⟨b,o,none⟩).run P w=.ok v w:=by simp[h]
theorem Bt(w:World){b:Nat}{cs:Array Value}{a:TypeId}{fr:Nat×Nat}(h:w.heap[b]?=some (.cells cs a fr))(o m:Nat)(c:o+m<=cs.size):(loadCells ⟨b,o,none⟩ m).run P w=.ok ((cs.toList.drop o).take m).toArray w:=by
 have hl:((cs.toList.drop o).take m).length=m:=by simp;omega
 grind[run_loadCells_list,uE,Gv]
def wr(cs:Array Value):Nat->List Value->Array Value
 |_,[]=>cs
 |o,v::l=>wr (cs.setIfInBounds o v) (o+1) l
theorem uF:∀(l:List Value)(cs:Array Value)(o:Nat),(wr cs o l).size=cs.size|[],_,_=>rfl|v::l,cs,o=>by rw[wr,uF l];simp
theorem Bu:∀(l:List Value)(cs:Array Value)(o j:Nat),o+l.length<=cs.size->(wr cs o l)[j]?=if o<=j/\j<o+l.length then l[j - o]? else cs[j]?
 |[],cs,o,j,_=>by rw[wr,aq (by simp only[List.length_nil];omega)]
 |v::l,cs,o,j,h=>by
  simp only[akA]at h;rw[wr,Bu l _ _ _ (by simp;omega)];simp only[akA];by_cases h1:o+1<=j/\j<o+1+l.length;·rw[aK h1,aK af];rw[show j - o=(j - (o+1))+1 by omega];simp
  rw[aq h1];by_cases h2:j=o;·subst h2;rw[aK af];rw[akr];simp;omega
  rw[aq af,akr,aq (λe=>h2 e.symm)]
theorem R'(w:World){b:Nat}{cs:Array Value}{a:TypeId}{fr:Nat×Nat}(h:w.heap[b]?=some (.cells cs a fr))(o:Nat)(v:Value):(w.setCell ⟨b,o,none⟩ v).heap=w.heap.setIfInBounds b (.cells (cs.setIfInBounds o v) a fr):=by
 have hl:b<w.heap.size:=by
  rcases akW b w.heap.size with hl|hl;·exact hl
  simp[akX hl]at h
 unfold World.setCell;grind
theorem Gw(b:Nat)(a:TypeId)(fr:Nat×Nat):∀(l:List Value)(w:World)(cs:Array Value)(o:Nat),w.heap[b]?=some (.cells cs a fr)->(w.setCells b o l).heap=w.heap.setIfInBounds b (.cells (wr cs o l) a fr)/\(w.setCells b o l).os=w.os/\(w.setCells b o l).tape=w.tape/\(w.setCells b o l).output=w.output
 |[],w,cs,o,h=>by refine⟨?_,rfl,rfl,rfl⟩;simp only[World.setCells,wr];grind
 |v::l,w,cs,o,h=>by
  have h1:=R' w h o v;have hl:b<w.heap.size:=by
   rcases akW b w.heap.size with hl|hl;·exact hl
   simp[akX hl]at h
  have h2:(w.setCell ⟨b,o,none⟩ v).heap[b]?=some (.cells (cs.setIfInBounds o v) a fr):=by rw[h1,akr];simp[hl]
  obtain⟨e1,e2,c,d⟩:=Gw b a fr l (w.setCell ⟨b,o,none⟩ v) _ (o+1) h2;simp only[World.setCells,wr];refine⟨?_,e2,c,d⟩;grind
theorem KX(w:World){b:Nat}{cs:Array Value}{a:TypeId}{fr:Nat×Nat}(h:w.heap[b]?=some (.cells cs a fr))(o:Nat)(l:List Value)(d:o+l.length<=cs.size)(c:∀i,o<=i->i<o+l.length->¬(fr.1<=i/\i<fr.2))(h1:∀v∈l,v.oneCell'=true):(storeCells ⟨b,o,none⟩ l).run P w=.ok () (w.setCells b o l):=by have:=run_storeCells_cells (P:=P) b o l 0 w (λj hj=>by rw[Gv w h];simp;omega) (λj hj=>by rw[R8 w h];have:=c (o+0+j) af af;simp only[Bool.and_eq_false_iff,decide_eq_false_iff_not];omega) h1;omega
theorem nD:∀(l:List AV)(c:ap AV)(o j:Nat),(fX c o l).bw .alR j=if o<=j/\j<o+l.length then l.getD (j - o) .alR else c.bw .alR j
 |[],c,o,j=>by rw[fX,aq (by simp only[List.length_nil];omega)]
 |v::l,c,o,j=>by
  rw[fX,nD l,ap.Gu _ _ _ _ _ _ (afb _)];simp only[akA];by_cases h1:o+1<=j/\j<o+1+l.length;·rw[aK h1,aK af,show j - o=(j - (o+1))+1 by omega];simp
  rw[aq h1];by_cases h2:j=o;·subst h2;rw[aK rfl,aK af];simp
  rw[aq h2,aq af]
theorem pR(l:List AV)(j:Nat)(h:j<l.length):(db l).bw .alR j=l.getD j .alR:=by simp_all[db,nD,aK]
theorem Du:∀(m:Nat)(c:ap AV)(n o:Nat)(l:List AV),iI c n o m=some l->l.length=m/\(0<m->o+m<=n)/\∀j,j<m->l[j]?=some (c.bw .alR (o+j))
 |0,c,n,o,l,h=>by simp_all[iI,adG]
 |m+1,c,n,o,l,h=>by
  simp only[iI]at h;split at h
  .split at h;·rename_i a hl;simp only[adG]at h;subst h;obtain⟨h1,h2,h3⟩:=Du m c n (o+1) a hl;grind
   grind
  grind
theorem Dv{f:aP}{c:ap AV}{n e:Nat}{b:Bool}{aM:List ab}{fz x:Nat}{cs:Array Value}{g:TypeId}{fr:Nat×Nat}(h:OR P f (.cells c n e b aM fz) x (.cells cs g fr)){o m:Nat}{l:List AV}(hl:iI c n o m=some l):bj f l ((cs.toList.drop (x+o)).take m)/\(0<m->x+o+m<=cs.size):=by
 obtain⟨_,h2,h3,_⟩:=h;obtain⟨q,j,k⟩:=Du m c n o l hl;have d:0<m->x+o+m<=cs.size:=λp=>by have:=j p;omega
 refine⟨bj.Gt ?_ ?_,d⟩;·grind
 intro i v r a s;have hi:i<m:=by
  rcases akW i m with h|h;·exact h
  rw[List.getElem?_eq_none af]at a;cases a
 rw[k i hi]at a;injection a with a;subst a;obtain⟨y,t,u⟩:=h3 (o+i) af;grind
theorem bj.Gx{b:aP}:∀{l:List AV}{m:List Value},bj b l m->dS l=true->∀v∈m,v.oneCell'=true
 |[],[],_,_,_,h=>by grind
 |a::l,c::m,k,h,v,d=>by
  simp only[dS,aj6]at h;rcases aeV.1 d with e|e;·subst e;have:=VR.ee k.1 h.1;cases v<;>simp_all[Value.oneCell']
  exact bj.Gx k.2 h.2 v e
 |[],_::_,k,_,_,_=>by trivial
 |_::_,[],k,_,_,_=>by grind
theorem Bv{v:cU}{t:aP}{H B:ai}{w:World}(h:bz P v t H w){i:ab}{o:Nat}{l:List AV}(d:iX H i o l=some B){b x:Nat}(hb:t i=some (b,x)){m:List Value}(z:bj t l m):(storeCells ⟨b,x+o,none⟩ m).run P w=.ok () (w.setCells b (x+o) m)/\bz P v t B (w.setCells b (x+o) m)/\eC v w (w.setCells b (x+o) m):=by
 unfold iX at d;split at d
 .rename_i c n e aM fz hi;split at d
  .rename_i C;simp only[aj6,decide_eq_true_eq]at C;obtain⟨⟨Q,R⟩,A⟩:=C;injection d with d;subst d;have f:H.get i≠.none:=by rw[hi];simp
   obtain⟨S,T,G,u,hl,g,a⟩:=h.aH f;rw[hb]at u;injection u with u;injection u with e1 e2;subst e1;subst e2;rw[hi]at a;cases G with
   |cells cs D fr=>
    simp only[OR]at a;obtain⟨I,J,K,E⟩:=a;have F:=bj.length z;have s:=KX (P:=P) w g (x+o) m af (λj p k=>E trivial j af af) (bj.Gx z A);obtain⟨e1,e2,L,M⟩:=Gw b D fr m w cs (x+o) g;have:=h.sS (i:=i) (o':=.cells (fX c o l) n e true [] fz) (ob':=.cells (wr cs (x+o) m) D fr) f (by rw[hi];rfl) hb rfl (by
     simp only[OR];refine⟨I,by rw[uF];exact J,λj hj=>?_,λ_ j p k=>E trivial j p (by rw[uF]at k;exact k)⟩;rw[nD,Bu _ _ _ _ af];by_cases q:o<=j/\j<o+l.length;·rw[aK q,aK af,show x+j - (x+o)=j - o by omega];have r:j - o<l.length:=af;obtain⟨y,N,O⟩:=bj.get z (j - o) l[j - o] (by simp[r]);exact⟨y,N,by simpa[List.getD,r]using O⟩
     rw[aq q,aq af];exact K j hj) (by have:=h.ka i b x _ f hb g;rw[hi]at this;simp only[gS]at this⊢;rw[uF];exact this) e1 e2 L M;rw[hi]at this;exact⟨s,this.1,this.2⟩
   |_=>simp[OR]at a
  cases d
 cases d
end
section
variable{P:Program}
theorem bz.KY{Wr:cU}{F:aP}{H:ai}{w:World}(h:bz P Wr F H w){i:ab}{c:ap AV}{m e:Nat}{aM:List ab}{fz:Nat}(hi:H.get i=.cells c m e true aM fz){b x:Nat}(hb:F i=some (b,x)){c2:ap AV}{n2 e2 fz2 b2 x2:Nat}{ob2:Obj}(q:Nat×Nat)(hq:gS P q (.cells c2 n2 e2 true (i::aM) fz2) ob2)(a3:b2=b->q=F.k b)(hr:OR P (F.add H.next b2 x2 q) (.cells c2 n2 e2 true (i::aM) fz2) x2 ob2){w':World}(a4:w'.os=w.os)(a5:w'.tape=w.tape)(a6:w'.output=w.output)(d:(b2=w.heap.size/\w'.heap=w.heap.push ob2)\/(b2=b/\w'.heap=w.heap.setIfInBounds b ob2/\x+m<=x2+n2/\∃cs N el fr,w.heap[b]?=some (.cells cs el fr)/\ob2=.cells N el fr/\N.size=cs.size/\∀j,j<x+m->N[j]?=cs[j]?)):cL F (F.add H.next b2 x2 q)/\bz P Wr (F.add H.next b2 x2 q) ((H.set i (.cells c m e false aM fz)).new (.cells c2 n2 e2 true (i::aM) fz2)) w'/\eC Wr w w':=by
 have C:H.get i≠.none:=by rw[hi];simp
 have ay:(H.get i).lz=false:=by rw[hi];rfl
 have J:(H.get i).aM=aM:=by rw[hi];rfl
 have O:(H.get i).len=m:=by rw[hi];rfl
 have hf:=h.eo H.next (afb _);have p:cL F (F.add H.next b2 x2 q):=aP.sR b2 x2 q hf.2 (λj o y e' s=>by
  rcases d with⟨h1,_⟩|⟨h1,_⟩;·have:=h.fH j o y e';omega
  rw[h1];exact(a3 h1).symm);have a8:i≠H.next:=λe=>C (e▸hf.1);obtain⟨cx,x',ob,e',hl,cd,cf⟩:=h.aH C;rw[hb]at e';injection e' with e';injection e' with e1 cn;subst e1;have a0:Wr.w b:=h.wr i b x C ay hb;have l:∀j,((H.set i (.cells c m e false aM fz)).new (.cells c2 n2 e2 true (i::aM) fz2)).get j=if j=H.next then .cells c2 n2 e2 true (i::aM) fz2 else if j=i then .cells c m e false aM fz else H.get j:=by intro j;rw[ai.dJ,ai.gD,ai.aF]
 have n:∀j,j≠H.next->(if j=i then(cq.cells c m e false aM fz)else H.get j)≠.none->H.get j≠.none:=by
  intro j _ hj;by_cases e:j=i;·subst e;exact C
  rwa[aq e]at hj
 have f:∀j,(if j=i then(cq.cells c m e false aM fz)else H.get j).aM=(H.get j).aM/\(if j=i then(cq.cells c m e false aM fz)else H.get j).len=(H.get j).len:=by
  intro j;by_cases e:j=i;·subst e;rw[aK rfl,hi];exact⟨rfl,rfl⟩
  rw[aq e];exact⟨rfl,rfl⟩
 have E:∀j y,j≠i->H.get j≠.none->F j=some (b,y)->j∈aM/\y+(H.get j).len<=x+m:=by
  intro j y T hj a;rcases h.k6 i j b x y (λe=>T e.symm) C hj hb a with⟨hm,_⟩|⟨hm,a1⟩;·have:=(h.aM i j hm).2 C;rw[ay]at this;cases this
  rw[J]at hm;rw[O]at a1;exact⟨hm,a1⟩
 have Z:∀j o y,H.get j≠.none->F j=some (o,y)->o=b2->(j=i\/j∈aM)/\y+(H.get j).len<=x2+n2:=by
  intro j o y hj a s;rcases d with⟨h1,_⟩|⟨h1,_,h3,_⟩;·obtain⟨a9,y',_,V,a',_⟩:=h.aH hj;rw[a]at V;injection V with V;injection V with u _;omega
  by_cases e:j=i;·subst e;rw[hb]at a;injection a with a;injection a with _ a;subst a;exact⟨.inl rfl,by rw[O];exact h3⟩
  have ba:o=b:=s.trans h1;subst ba;obtain⟨D,I⟩:=E j y e hj a;exact⟨.inr D,af⟩
 refine⟨p,⟨?_,?_,?_,?_,?_,?_,?_,?_,?_,?_,?_,?_⟩,⟨a4,a5,a6,?_,?_⟩⟩
 .intro j hj;rw[l]at hj⊢;by_cases X:j=H.next
  .subst X;rw[aK rfl];refine⟨b2,x2,ob2,aP.fP ..,?_,hr⟩;rcases d with⟨h1,h2⟩|⟨h1,h2,_⟩;·rw[h2,h1];simp
   rw[h2,h1,akr];simp[hl]
  rw[aq X]at hj⊢;have r:=n j X hj;obtain⟨o,y,oc,S,cp,s,L⟩:=h.aH r;have B:OR P F (if j=i then(cq.cells c m e false aM fz)else H.get j) y oc:=by
   by_cases u:j=i;·subst u;rw[aK rfl];rw[hi]at L;cases oc<;>simp only[OR]at L⊢;exact⟨L.1,L.2.1,L.2.2.1,λh=>by cases h⟩
   rw[aq u];exact L
  rcases d with⟨h1,h2⟩|⟨h1,h2,h3,cs,N,el,fr,D,I,g3,g4⟩;·exact⟨o,y,oc,(p _ _ S).1,by rw[h2,ale,aq af];exact s,OR.mono p B⟩
  by_cases e4:o=b
  .subst e4;rw[s]at D;injection D with D;subst D;refine⟨o,y,ob2,(p _ _ S).1,by rw[h2,akr];simp[hl],OR.mono p ?_⟩;subst I;have ca:y+(H.get j).len<=x+m:=by
    by_cases u:j=i;·subst u;rw[hb]at S;injection S with S;injection S with _ S;rw[O];omega
    exact(E j y u r S).2
   have Q:(if j=i then(cq.cells c m e false aM fz)else H.get j).lz=true:=by
    by_cases u:j=i;·rw[aK u];rfl
    rw[aq u];exact(h.aM j i (by rw[J];exact(E j y u r S).1)).2 r
   have ag:=(f j).2;generalize(if j=i then(cq.cells c m e false aM fz)else H.get j)=oj at B Q ag;cases oj with
   |cells c5 n5 e5 bb p5 f5=>
    simp only[OR]at B⊢;obtain⟨k1,k2,k3,k4⟩:=B;have cv:n5=(H.get j).len:=ag;have bc:bb=false:=by simpa[cq.lz]using Q
    refine⟨k1,af,λt ht=>?_,λh=>by rw[bc]at h;cases h⟩;obtain⟨v,hv,bd⟩:=k3 t ht;exact⟨v,by rw[g4 _ af];exact hv,bd⟩
   |_=>simp[cq.lz]at Q
  exact⟨o,y,oc,(p _ _ S).1,by rw[h2,akr,aq (λh=>e4 h.symm)];exact s,OR.mono p B⟩
 .intro j k o y z a2 hj A a Y;rw[l]at hj A;rw[l,l];by_cases e1:j=H.next
  .subst e1;have e2:k≠H.next:=λh=>a2 h.symm;rw[aq e2]at A⊢;rw[aK rfl];have G:=n k e2 A;simp only[aP.add,aq e2]at Y;rw[aP.fP]at a;injection a with a;injection a with bv b0;obtain⟨D,I⟩:=Z k o z G Y bv.symm;right;refine⟨?_,?_⟩
   .rcases D with g|g;·rw[g];exact aeU ..
    exact aey _ g
   rw[(f k).2,<-b0];exact I
  by_cases e2:k=H.next
  .subst e2;rw[aq e1]at hj⊢;rw[aK rfl];have r:=n j e1 hj;simp only[aP.add,aq e1]at a;rw[aP.fP]at Y;injection Y with Y;injection Y with b3 b4;obtain⟨D,I⟩:=Z j o y r a b3.symm;left;refine⟨?_,?_⟩
   .show j∈i::aM;rcases D with g|g;·rw[g];exact aeU ..
    exact aey _ g
   rw[(f j).2,<-b4];exact I
  rw[aq e1]at hj⊢;rw[aq e2]at A⊢;have r:=n j e1 hj;have G:=n k e2 A;simp only[aP.add,aq e1,aq e2]at a Y;rw[(f j).1,(f j).2,(f k).1,(f k).2];exact h.k6 j k o y z a2 r G a Y
 .intro j k A;rw[l]at A;rw[l];have ax:((H.set i (.cells c m e false aM fz)).new (.cells c2 n2 e2 true (i::aM) fz2)).next.an=H.next.an+1:=by show(H.next.succ).an=_;exact ab.gK _
  rw[ax];by_cases e2:k=H.next
  .rw[aK e2]at A;have G:j∈i::aM:=A;rcases aeV.1 G with g|g;·subst g;have:=h.Dt C;refine⟨af,λ_=>?_⟩;rw[aq a8,aK rfl];rfl
   obtain⟨D,I⟩:=h.aM j i (by rw[J];exact g);refine⟨af,λhj=>?_⟩;have e1:j≠H.next:=λe=>by subst e;omega
   rw[aq e1]at hj⊢;by_cases u:j=i;·rw[aK u];rfl
   rw[aq u]at hj⊢;exact I hj
  rw[aq e2,(f k).1]at A;obtain⟨D,I⟩:=h.aM j k A;refine⟨af,λhj=>?_⟩;have e1:j≠H.next:=λe=>by subst e;omega
  rw[aq e1]at hj⊢;by_cases u:j=i;·rw[aK u];rfl
  rw[aq u]at hj⊢;exact I hj
 .intro j o y hj M a;rw[l]at hj M;by_cases e1:j=H.next
  .subst e1;rw[aP.fP]at a;injection a with a;injection a with a _;rcases d with⟨h1,_⟩|⟨h1,_⟩;·exact(h.new o af).1
   rw[<-a,h1];exact a0
  rw[aq e1]at hj M;simp only[aP.add,aq e1]at a;by_cases u:j=i;·rw[aK u]at M;cases M
  rw[aq u]at hj M;exact h.wr j o y hj M a
 .intro j hj;have r:H.next.succ.an<=j.an:=hj;rw[ab.gK]at r;have e1:j≠H.next:=λe=>by subst e;omega
  have u:j≠i:=λe=>by subst e;have:=h.Dt C;omega
  rw[l,aq e1,aq u];obtain⟨D,I⟩:=h.eo j af;exact⟨D,by simp[aP.add,e1,I]⟩
 .intro k A;refine h.new k ?_;rcases d with⟨_,h2⟩|⟨_,h2,_⟩;·rw[h2]at A;simp at A;omega
  rw[h2]at A;simpa using A
 .intro g hg;exact(p _ _ (h.mq g hg)).1
 .intro j o y oc hj a s;rw[l]at hj⊢;by_cases X:j=H.next
  .subst X;rw[aP.fP]at a;injection a with a;injection a with a _;subst a;rw[aK rfl,aP.uD];have:oc=ob2:=by
    rcases d with⟨h1,h2⟩|⟨h1,h2,_⟩;·rw[h2,h1,ale,aK rfl]at s;injection s with s;exact s.symm
    rw[h2,h1,akr]at s;simp only[hl,bq,adG]at s;exact s.symm
   rw[this];exact hq
  rw[aq X]at hj⊢;have r:=n j X hj;simp only[aP.add,aq X]at a;rw[show(F.add H.next b2 x2 q).k o=F.k o from(p _ _ a).2];have a':=h.fH j o y a;obtain⟨a9,y',av,W,_,K,_⟩:=h.aH r;rw[a]at W;injection W with W;injection W with b5 b6;subst b5;subst b6;have R:=h.ka j o y av r a K;have gE:gS P (F.k o) (if j=i then(cq.cells c m e false aM fz)else H.get j) av:=by
   by_cases u:j=i;·subst u;rw[aK rfl];rw[hi]at R;cases av<;>exact R
   rw[aq u];exact R
  rcases d with⟨h1,h2⟩|⟨h1,h2,h3,cs,N,el,fr,D,I,g3,g4⟩;·rw[h2,ale,aq af,K]at s;injection s with s;rw[<-s];exact gE
  rw[h2,akr]at s;by_cases e4:b=o;·subst e4;simp only[hl,bq,adG]at s;rw[K]at D;injection D with D;subst D;rw[<-s,I];generalize(if j=i then(cq.cells c m e false aM fz)else H.get j)=oj at gE;cases oj<;>simp only[gS]at gE⊢;rw[g3];exact gE
  rw[aq e4,K]at s;injection s with s;rw[<-s];exact gE
 .intro j o y a;by_cases e1:j=H.next
  .subst e1;rw[aP.fP]at a;injection a with a;injection a with a _;rcases d with⟨h1,h2⟩|⟨h1,h2,_⟩;·rw[h2,Array.size_push];omega
   rw[h2,Array.size_setIfInBounds];omega
  simp only[aP.add,aq e1]at a;have:=h.fH j o y a;rcases d with⟨h1,h2⟩|⟨h1,h2,_⟩;·rw[h2,Array.size_push];omega
  rw[h2,Array.size_setIfInBounds];omega
 .intro j o y hj a;rw[l]at hj;by_cases e1:j=H.next
  .subst e1;rw[aP.fP]at a;injection a with a;injection a with a _;rcases d with⟨h1,_⟩|⟨h1,_⟩;·exact(h.new o af).2
   rw[<-a,h1];exact h.rd i b x C hb
  rw[aq e1]at hj;simp only[aP.add,aq e1]at a;exact h.rd j o y (n j e1 hj) a
 .intro j hj;obtain⟨h1,h2,h3⟩:=h.un j hj;have aw:j≠H.next:=λe=>by subst e;omega
  have T:j≠i:=λe=>C (by rw[<-e];exact h1);refine⟨by rw[l,aq aw,aq T];exact h1,?_,λk A=>?_⟩;·show j.an<H.next.succ.an;rw[ab.gK];omega
  rw[l]at A;by_cases e2:k=H.next
  .rw[aK e2]at A;have G:j∈i::aM:=A;rcases aeV.1 G with g|g;·exact T g
   exact h3 i (by rw[J];exact g)
  rw[aq e2,(f k).1]at A;exact h3 k A
 .intro j hj;obtain⟨h1,h2⟩:=h.fc j hj;have aw:j≠H.next:=λe=>by have:=(h.un j h1).2.1;subst e;omega
  exact⟨h1,by simp[aP.add,aw,h2]⟩
 .rcases d with⟨_,h2⟩|⟨_,h2,_⟩<;>rw[h2]<;>simp
 intro k A b';rcases d with⟨_,h2⟩|⟨_,h2,_⟩;·rw[h2,ale,aq af]
 have:k≠b:=λe=>b' (e▸a0);rw[h2,akr,aq (λh=>this h.symm)]
end
section
mutual
theorem Dw(ρ:aP):∀(v:Value)(a:AV),ly v=some a->VR ρ a v
 |.bool b,a,h=>by grind[ly,adG,VR]
 |.int k n,a,h=>by grind[ly,adG,VR]
 |.string s,a,h=>by grind[ly,adG,VR]
 |.pointer none,a,h=>by grind[ly,adG,VR]
 |.slice none 0 0,a,h=>by grind[ly,adG,VR]
 |.map none,a,h=>by grind[ly,adG,VR]
 |.nilFunc,a,h=>by grind[ly,adG,VR]
 |.nilIface,a,h=>by grind[ly,adG,VR]
 |.func (.func f) x y,a,h=>by
  simp only[ly]at h
  split at h
  .rename_i l m hl c
   injection h with h;subst h
   simp only[VR]
   exact⟨trivial,Bw ρ x.toList l hl,Bw ρ y.toList m c⟩
  grind
 |.agg l,a,h=>by
  simp only[ly,aho]at h
  obtain⟨m,c,h⟩:=h;subst h
  exact Bw ρ l.toList m c
 |.tuple l,a,h=>by
  simp only[ly,aho]at h
  obtain⟨m,c,h⟩:=h;subst h
  exact Bw ρ l.toList m c
 |.iface t v,a,h=>by
  simp only[ly,aho]at h
  obtain⟨m,c,h⟩:=h;subst h
  simp only[VR];exact⟨trivial,Dw ρ v m c⟩
 |.float ..,a,h=>by trivial
 |.complex ..,a,h=>by trivial
 |.pointer (some _),a,h=>by trivial
 |.slice (some _) _ _,a,h=>by trivial
 |.slice none (_+1) _,a,h=>by trivial
 |.slice none 0 (_+1),a,h=>by trivial
 |.map (some _),a,h=>by trivial
 |.chan _,a,h=>by trivial
 |.func (.method _) _ _,a,h=>by trivial
 |.func (.methodOf ..) _ _,a,h=>by trivial
 |.func (.via ..) _ _,a,h=>by trivial
 |.func (.yield _) _ _,a,h=>by trivial
theorem Bw(ρ:aP):∀(l:List Value)(m:List AV),vL l=some m->bj ρ m l
 |[],m,h=>by simp_all[vL,adG,bj]
 |v::l,m,h=>by
  simp only[vL]at h
  split at h
  .rename_i a b c d
   injection h with h;subst h
   exact⟨Dw ρ v a c,Bw ρ l b d⟩
  grind
end
section kq
variable{ρ:aP}{c:Value}
theorem VR.oO{i:ab}{o:Nat}(h:VR ρ (.az i o) c):∃b x,ρ i=some (b,x)/\c=.pointer (some ⟨b,x+o,none⟩):=by
 cases c with
 |pointer p=>cases p with|none=>trivial|some p=>simp_all[VR]
 |_=>trivial
theorem VR.Dx(h:VR ρ .lS c):c=.pointer none:=by grind[VR]
theorem VR.rO{b:Bool}(h:VR ρ (.bool b) c):c=.bool b:=by cases c<;>simp only[VR]at h;grind
theorem VR.jQ{k:Nat}{n:Int}(h:VR ρ (.int k n) c):∃a,k=kc a/\c=.int a n:=by cases c<;>simp only[VR]at h;grind
theorem VR.nE{s:List Nat}(h:VR ρ (.str s) c):∃t:ByteArray,t.data.toList.map alv=s/\c=.string t:=by cases c<;>simp only[VR]at h;grind
theorem VR.pj{i:ab}{o len cap:Nat}{ex:Bool}(h:VR ρ (.slice i o len cap ex) c):∃ad a,c=.slice (some ad) len a/\len<=cap/\cap<=a/\(ex=true->a=cap)/\∃b x,ρ i=some (b,x)/\(a≠0->ad=⟨b,x+o,none⟩)/\(ex=false->x+o+a*(ρ.k b).2<=(ρ.k b).1):=by
 cases c with
 |slice p n a=>cases p with|none=>trivial|some p=>grind[VR]
 |_=>trivial
theorem VR.nF(h:VR ρ .aS c):c=.slice none 0 0:=by grind[VR]
theorem VR.po{i:ab}(h:VR ρ (.map i) c):∃b,ρ i=some (b,0)/\c=.map (some b):=by
 cases c with
 |map p=>cases p with|none=>trivial|some p=>exact⟨p,h,rfl⟩
 |_=>trivial
theorem VR.uG(h:VR ρ .cY c):c=.map none:=by grind[VR]
theorem VR.sU{l:List AV}(h:VR ρ (.agg l) c):∃cs:Array Value,bj ρ l cs.toList/\c=.agg cs:=by cases c<;>simp only[VR]at h;grind
theorem VR.Sc{l:List AV}(h:VR ρ (.tuple l) c):∃cs:Array Value,bj ρ l cs.toList/\c=.tuple cs:=by cases c<;>simp only[VR]at h;grind
theorem VR.zw{t:Nat}{v:AV}(h:VR ρ (.iface t v) c):∃x,VR ρ v x/\c=.iface t x:=by cases c<;>simp only[VR]at h;grind
theorem VR.Bx(h:VR ρ .nilIface c):c=.nilIface:=by grind[VR]
theorem VR.Dy{f:Nat}{a b:List AV}(h:VR ρ (.func f a b) c):∃x y:Array Value,bj ρ a x.toList/\bj ρ b y.toList/\c=.func (.func f) x y:=by cases c with|func fn x y=>cases fn<;>simp only[VR]at h;exact⟨x,y,h.2.1,h.2.2,by rw[h.1]⟩|_=>simp only[VR]at h
theorem VR.Dz{i:ab}(h:VR ρ (.yield i) c):∃b,ρ i=some (b,0)/\c=.func (.yield b) #[] #[]:=by cases c with|func fn x y=>cases fn<;>simp only[VR]at h;exact⟨_,h.1,by rw[h.2.1,h.2.2]⟩|_=>simp only[VR]at h
theorem VR.zx(h:VR ρ .nilFunc c):c=.nilFunc:=by grind[VR]
end kq
variable{P:Program}
theorem b8{t:TypeId}{d:TypeDesc}(h:P.underlying t=some d)(w:World):(underlying t).run P w=.ok d w:=by simp[h,underlying]
theorem KZ{t:TypeId}{s:Nat}(h:fY P t=some s):∃i,P.info? t=some i/\i.size=s:=by simp_all[fY,aho]
theorem Gy{t:TypeId}{s:Nat}(h:zo P t=some s):∃i,P.info? t=some i/\i.bytes=s:=by simp_all[zo,aho]
theorem zy{t:TypeId}{i:TypeInfo}(h:P.info? t=some i)(w:World):(typeInfo t).run P w=.ok i w:=by simp[h,typeInfo]
theorem jB{t:TypeId}{s:Nat}(h:fY P t=some s)(w:World):(sizeOf t).run P w=.ok s w:=by obtain⟨i,h1,h2⟩:=KZ h;simp[h1,h2,sizeOf,zy]
theorem Sd{v:Value}{z:AV}(h:ly v=some z):z.bB=true:=by
 cases z<;>first|rfl|skip
 unfold ly at h;grind[aho]
theorem La{v:AV}(h:dS v.cells=true):v.bB=true:=by cases v<;>first|rfl|(simp[AV.cells,dS,AV.ee]at h)
theorem Se{t:TypeId}{z:AV}(h:pP P t=some z):∃i v,P.info? t=some i/\i.zero=some v/\ly v=some z:=by simp_all[pP,aed]
theorem uH{t:TypeId}{z:AV}(h:pP P t=some z):∃v,(∀w,(zeroValue t).run P w=.ok v w)/\(∀ρ,VR ρ z v)/\z.bB=true:=by obtain⟨i,v,h1,h2,h3⟩:=Se h;exact⟨v,λw=>by simp[h1,h2,zeroValue,zy],λρ=>Dw ρ v z h3,Sd h3⟩
theorem By{t:TypeId}{b:Bool}(h:pi P t=some b)(w:World):(isAgg t).run P w=.ok b w:=by simp only[pi,aho]at h;obtain⟨d,h1,h2⟩:=h;simp only[isAgg,Sem.run_bind,b8 h1,Result.andThen_ok];cases d<;>simp_all
theorem zA{i:cU}{ρ:aP}{H:ai}{w:World}{e:Nat}{x:Operand}{h:aJ}(b:hZ P e x=some h){aa:ap AV}{a:Act}(j:jg ρ e aa a.tmps)(k:bz P i ρ H w):VR ρ (gv aa h) (a.eval x):=by
 cases x with
 |tmp t=>
  simp only[hZ]at b;split at b;·rename_i d;injection b with b;subst b;exact j.2 t d
  grind
 |const v=>simp only[hZ,aho]at b;obtain⟨c,l,b⟩:=b;subst b;exact Dw ρ v c l
 |global g=>
  simp only[hZ]at b;split at b;·rename_i d;injection b with b;subst b;exact⟨g,0,k.mq g d,rfl⟩
  grind
 |func f=>grind[hZ,adG,gv,Act.eval,VR,bj]
theorem zB{e:cU}{ρ:aP}{H:ai}{w:World}{b:Nat}{aa:ap AV}{a:Act}(c:jg ρ b aa a.tmps)(d:bz P e ρ H w):∀{l:List Operand}{ol:List aJ},l.mapM (hZ P b)=some ol->bj ρ (ol.map (gv aa)) (l.map a.eval)|[],ol,h=>by simp_all[bj]|x::l,ol,h=>by simp only[alw,ae5,aed,ajB,adG]at h;obtain⟨g,h1,f,h2,h3⟩:=h;subst h3;exact⟨zA h1 c d,zB c d h2⟩
def ahB(P:Program)(s:Sem Value)(w:World)(Q:Value->World->Prop):Prop:=∃v a,s.run P w=.ok v a/\Q v a
def dp(P:Program)(b:cU)(ρ:aP)(w:World)(v:AV)(e:ai)(c:Value)(d:World):Prop:=
 ∃a,cL ρ a/\VR a v c/\bz P b a e d/\eC b w d
theorem dp.bX{a:cU}{ρ:aP}{H:ai}{w:World}{v:AV}{c:Value}(b:bz P a ρ H w)(h:VR ρ v c):dp P a ρ w v H c w:=⟨ρ,cL.refl ρ,h,b,eC.refl a w⟩
theorem zC{b:cU}{ρ:aP}{H:ai}{w:World}(d:bz P b ρ H w){l:List AV}{m:List Value}(h:bj ρ l m)(e n:Nat)(o:n=l.length)(a:List Value):cL ρ (ρ.add H.next w.heap.size 0 ((m++a).length,(fY P e).getD 0))/\bz P b (ρ.add H.next w.heap.size 0 ((m++a).length,(fY P e).getD 0)) (H.new (.cells (db l) n e true [] 0)) {w with heap:=w.heap.push (.cells (m++a).toArray e (0,0))}/\eC b w {w with heap:=w.heap.push (.cells (m++a).toArray e (0,0))}:=by have f:cL ρ (ρ.add H.next w.heap.size 0 ((m++a).length,(fY P e).getD 0)):=aP.sR w.heap.size 0 _ (d.eo H.next (afb _)).2 (λj c y k p=>by have:=d.fH j c y k;omega);refine d.alloc _ (by rfl) aB rfl ?_;have g:=bj.length h;simp only[OR];refine⟨trivial,by grind,λi hi=>?_,λ_ i _ _=>by simp⟩;grind[bj.get,akw,pR,VR.mono,List.getD]
end
section
variable{P:Program}
def bE(P:Program)(d:cU)(ρ:aP)(w:World)(s:Sem Next)(v:AV)(H':ai):Prop:=
 ∃c a,(s.run P w=.ok (.value c) a\/(s.run P w=.ok .skip a/\c=undef))/\dp P d ρ w v H' c a
theorem bE.val{d:cU}{ρ:aP}{w w':World}{s:Sem Next}{v:AV}{H':ai}{c:Value}(h:s.run P w=.ok (.value c) w')(a:dp P d ρ w v H' c w'):bE P d ρ w s v H':=⟨c,w',.inl h,a⟩
section
variable{d:cU}{ρ:aP}{H H':ai}{w:World}{nt:Nat}{aa:ap AV}{a:Act}{o:Oper}{ao:bW}{v:AV}
structure ef(P:Program)(Wr:cU)(ρ:aP)(H:ai)(w:World)(nt:Nat)(aa:ap AV)(a:Act):Prop where
 E:jg ρ nt aa a.tmps
 I:bz P Wr ρ H w
theorem ef.gv(h:ef P d ρ H w nt aa a){x:Operand}{b:aJ}(c:hZ P nt x=some b):VR ρ (gv aa b) (a.eval x):=zA c h.E h.I
theorem Lb(h:ef P d ρ H w nt aa a){x:Operand}(b:o.op=.move x\/o.op=.assign x)(f:bU P nt o=some ao)(he:aE ao aa H=some (v,H')):bE P d ρ w (execOp a.eval o) v H':=by
 have e:∃c,hZ P nt x=some c/\ao=.bg c:=by rcases b with b|b<;>simp only[bU,b,ae5,aed,ajB,adG]at f<;>obtain⟨c,h1,h2⟩:=f<;>exact⟨c,h1,h2.symm⟩
 obtain⟨c,h1,rfl⟩:=e;obtain⟨rfl,rfl⟩:=he;refine bE.val (c:=a.eval x) (w':=w) ?_ (dp.bX h.I (h.gv h1));rcases b with b|b<;>simp[execOp,b]
theorem Sf(h:ef P d ρ H w nt aa a){c x y:Operand}(b:o.op=.pick c x y)(e:bU P nt o=some ao)(he:aE ao aa H=some (v,H')):bE P d ρ w (execOp a.eval o) v H':=by
 simp only[bU,b,ae5,aed,ajB,adG]at e;obtain⟨j,h1,k,h2,l,h3,rfl⟩:=e;simp only[aE]at he;have f:=h.gv h1;split at he
 .rename_i t g;obtain⟨rfl,rfl⟩:=he;rw[g]at f;have i:=f.rO;refine bE.val (c:=if t then a.eval x else a.eval y) (w':=w) (by simp[b,i,execOp,asBool]) (dp.bX h.I ?_);cases t;·exact h.gv h3
  exact h.gv h2
 grind
theorem Sg(h:ef P d ρ H w nt aa a){e:TypeId}(f:o.op=.alloc e)(g:bU P nt o=some ao)(he:aE ao aa H=some (v,H')):bE P d ρ w (execOp a.eval o) v H':=by simp only[bU,f,ae5,aed,ajB,adG]at g;obtain⟨z,h1,rfl⟩:=g;obtain⟨rfl,rfl⟩:=he;obtain⟨zv,i,b,c⟩:=uH h1;obtain⟨j,k,l⟩:=zC h.I (VR.cells (b ρ) c) e z.cells.length rfl [];refine bE.val (c:=.pointer (some ⟨w.heap.size,0,none⟩)) (w':={w with heap:=w.heap.push (.cells (zv.cells.toList++[]).toArray e (0,0))}) ?_ ⟨_,j,?_,k,l⟩;all_goals simp[f,i,execOp,Instr.alloc,newVar,newRow,VR,aP.fP]
theorem Sh(h:ef P d ρ H w nt aa a){e:TypeId}{x:Operand}(c:o.op=.box e x)(f:bU P nt o=some ao)(he:aE ao aa H=some (v,H')):bE P d ρ w (execOp a.eval o) v H':=by
 simp only[bU,c,ae5,aed,ajB,adG]at f;obtain⟨k,h1,rfl⟩:=f;simp only[aE]at he;split at he;·rename_i b;obtain⟨rfl,rfl⟩:=he;obtain⟨g,i,j⟩:=zC h.I (VR.cells (h.gv h1) (La b)) e _ rfl [];refine bE.val (c:=.pointer (some ⟨w.heap.size,0,none⟩)) (w':={w with heap:=w.heap.push (.cells ((a.eval x).cells.toList++[]).toArray e (0,0))}) ?_ ⟨_,g,?_,i,j⟩;all_goals simp[c,execOp,Instr.box,newVar,newRow,VR,aP.fP]
 grind
theorem Lc(B:bz P d ρ H w){u:AV}{c:Value}(C:VR ρ u c){t:TypeId}{n:Nat}{g:Bool}(hg:pi P t=some g)(z:g=true->fY P t=some n)(o:g=false->n=1)(he:jp H u n g=some v):∃b,c=.pointer (some b)/\∃r,(loadVar t b).run P w=.ok r w/\VR ρ v r:=by
 unfold jp at he;split at he
 .rename_i id off;obtain⟨b,x,hb,rfl⟩:=C.oO;refine⟨_,rfl,?_⟩;simp only[fE]at he;split at he
  .rename_i l hl;split at hl
   .rename_i c m e F aM fz hi;have p:H.get id≠.none:=by rw[hi];simp
    obtain⟨G,I,D,j,h,i,a⟩:=B.aH p;rw[hb]at j;injection j with j;injection j with e1 e2;subst e1;subst e2;rw[hi]at a;cases D with
    |cells cs J fr=>
     obtain⟨f,E⟩:=Dv a hl;cases g with
     |true=>
      simp only[bq,adG]at he;subst he;rcases Nat.eq_zero_or_pos n with k|k
      .subst k;refine⟨.agg #[],?_,?_⟩;·simp[loadVar,By hg,jB (z rfl),loadCells,loadCellsFrom]
       simp only[VR];simpa using f
      refine⟨.agg ((cs.toList.drop (x+off)).take n).toArray,?_,by simp only[VR];simpa using f⟩;simp only[loadVar,Sem.run_bind,By hg,Result.andThen_ok,bq,jB (z rfl),Bt w i (x+off) n (E k),Sem.run_pure]
     |false=>
      have:=o rfl;subst this;simp only[aes,bP]at he;obtain⟨y,A⟩:∃y,cs[x+off]?=some y:=⟨cs[x+off],aB⟩;have s:(cs.toList.drop (x+off)).take 1=[y]:=by
       have h:x+off<cs.toList.length:=by simp;omega
       rw[aj9 h];simp only[als,alm];have:cs.toList[x+off]=y:=by simpa[Array.getElem?_eq_getElem (show x+off<cs.size by omega)]using A
       rw[this]
      rw[s]at f;cases l with|nil=>simp[bj]at f|cons q l=>simp only[List.head?_cons,adG]at he;subst he;refine⟨y,?_,f.1⟩;simp only[loadVar,Sem.run_bind,By hg,Result.andThen_ok,aes,bP];exact R9 w (by rw[Gv w i];exact A)
    |_=>simp[OR]at a
   cases hl
  cases he
 cases he
theorem Si(h:ef P d ρ H w nt aa a){t:TypeId}{x:Operand}(i:o.op=.load t x)(c:bU P nt o=some ao)(he:aE ao aa H=some (v,H')):bE P d ρ w (execOp a.eval o) v H':=by
 simp only[bU,i,ae5,aed,ajB,adG]at c;obtain⟨g,hg,c⟩:=c;have key:∃e n,hZ P nt x=some e/\(g=true->fY P t=some n)/\(g=false->n=1)/\∃q,jp H (gv aa e) n g=some q/\v=q/\H'=H:=by cases g with|true=>simp only[bq,aed,adG]at c;obtain⟨n,j,e,h1,rfl⟩:=c;simp only[aE,aho,aj1]at he;obtain⟨q,f,rfl,rfl⟩:=he;exact⟨e,n,h1,λ_=>j,aB,_,f,rfl,rfl⟩|false=>simp only[aes,bP,aed,adG]at c;obtain⟨e,h1,rfl⟩:=c;simp only[aE,aho,aj1]at he;obtain⟨q,f,rfl,rfl⟩:=he;exact⟨e,1,h1,aB,λ_=>rfl,_,f,rfl,rfl⟩
 obtain⟨e,n,h1,h2,h3,q,f,rfl,rfl⟩:=key;obtain⟨b,hb,r,k,l⟩:=Lc h.I (h.gv h1) hg h2 h3 f;exact bE.val (c:=r) (w':=w) (by simp[i,hb,k,execOp,Instr.loadAt,Instr.sureAddr]) (dp.bX h.I l)
theorem Sj{id:ab}{off:Nat}{l:List AV}(h:iX H id off l=some H'):dS l=true:=by unfold iX at h;grind
theorem Sk(h:ef P d ρ H w nt aa a){t:TypeId}{x y:Operand}(f:o.op=.store t x y)(g:bU P nt o=some ao)(he:aE ao aa H=some (v,H')):bE P d ρ w (execOp a.eval o) v H':=by
 simp only[bU,f,ae5,aed,ajB,adG]at g;obtain⟨n,k,s,h1,u,h2,rfl⟩:=g;simp only[aE]at he;have i:=h.gv h1;split at he
 .rename_i id off l;rw[l]at i;split at he
  .split at he
   .rename_i H1 j;obtain⟨rfl,rfl⟩:=he;obtain⟨b,z,hb,m⟩:=i.oO;have c:=VR.cells (h.gv h2) (La (Sj j));obtain⟨p,q,r⟩:=Bv h.I j hb c;have e:(a.eval y).cells.size=n:=by have:=bj.length c;simp at this;omega
    refine⟨undef,_,.inr ⟨?_,rfl⟩,⟨ρ,cL.refl ρ,VR.alR ρ,q,r⟩⟩;simp[f,m,k,e,p,execOp,Instr.storeAt,Instr.sureAddr,storeVar,jB]
   grind
  grind
 grind
end
end
section
variable{P:Program}{d:cU}{ρ:aP}{H H':ai}{w:World}{nt:Nat}{aa:ap AV}{a:Act}{o:Oper}{ao:bW}{v:AV}
theorem Sn(h:ef P d ρ H w nt aa a){x:Operand}(f:o.op=.nilCheck x)(g:bU P nt o=some ao)(he:aE ao aa H=some (v,H')):bE P d ρ w (execOp a.eval o) v H':=by
 simp only[bU,f,ae5,aed,ajB,adG]at g;obtain⟨j,h1,rfl⟩:=g;simp only[aE]at he;have e:=h.gv h1;split at he<;>(try cases he)<;>rename_i i<;>rw[i]at e;·obtain⟨b,z,hb,c⟩:=e.oO;exact bE.val (by simp[f,c,execOp]) (dp.bX h.I (c▸e))
 .obtain⟨k,l,_,_,c⟩:=e.Dy;exact bE.val (by simp[f,c,execOp]) (dp.bX h.I (c▸e))
 .obtain⟨b,hb,c⟩:=e.Dz;exact bE.val (by simp[f,c,execOp]) (dp.bX h.I (c▸e))
 .obtain⟨y,_,c⟩:=e.zw;exact bE.val (by simp[f,c,execOp]) (dp.bX h.I (c▸e))
 .obtain⟨b,hb,c⟩:=e.po;exact bE.val (by simp[f,c,execOp]) (dp.bX h.I (c▸e))
 obtain⟨ad,m,c,_⟩:=e.pj;exact bE.val (by simp[f,c,execOp]) (dp.bX h.I (c▸e))
theorem sV(k:IntKind):ck (kc k)=k:=by cases k<;>rfl
theorem xz{j k:IntKind}(h:kc j=kc k):j=k:=by have:=congrArg ck h;grind[sV]
theorem fQ(a b:Int):iQ a b=(a==b):=by
 cases a with
 |ofNat m=>cases b with|ofNat n=>show akb m n=_;rw[alE];simp;omega|negSucc n=>show false=_;symm;rw[beq_eq_false_iff_ne];intro e;cases e
 |negSucc m=>cases b with|ofNat n=>show false=_;symm;rw[beq_eq_false_iff_ne];intro e;cases e|negSucc n=>show akb m n=_;rw[alE];simp
theorem nG(a b:Int):lV a b=decide (a<b):=by
 cases a with
 |ofNat m=>cases b with|ofNat n=>show akv m n=_;rw[alE];simp[akv];omega|negSucc n=>show false=_;symm;simp only[decide_eq_false_iff_not,aj5];omega
 |negSucc m=>cases b with|ofNat n=>show true=_;symm;simp only[decide_eq_true_eq,aj5];omega|negSucc n=>show akv n m=_;rw[alE];simp[akv];omega
theorem Bz(n:Int)(h1: -9223372036854775808<=n)(h2:n<9223372036854775808):IntKind.i64.wrap n=n:=by unfold IntKind.wrap IntKind.signed IntKind.bits;grind
theorem Sp(n:Int)(h1:0<=n)(h2:n<256):IntKind.u8.wrap n=n:=by unfold IntKind.wrap IntKind.signed IntKind.bits;grind
theorem xA(k:IntKind)(n:Int):iJ (kc k) n=k.wrap n:=by
 have a:ny (kc k) n=k.wrap n:=by rw[ny,sV]
 unfold iJ;split
 .rename_i m c;split
  .rename_i e;have b:k=.i64:=by cases k<;>simp[kc]at c⊢
   subst b;have:m<9223372036854775808:=ako (Nat.lt_succ_self m) (akc e);exact(Bz _ (by simp only[aj5];omega) (by simp only[aj5];omega)).symm
  rw[c]at a;exact a
 .rename_i m c;split
  .rename_i e;have b:k=.i64:=by cases k<;>simp[kc]at c⊢
   subst b;have:m<9223372036854775808:=ako (Nat.lt_succ_self m) (akc e);exact(Bz _ af af).symm
  rw[c]at a;exact a
 .rename_i m c;split
  .rename_i e;have b:k=.u8:=by cases k<;>simp[kc]at c⊢
   subst b;have:m<256:=ako (Nat.lt_succ_self m) (akc e);exact(Sp _ (by simp only[aj5];omega) (by simp only[aj5];omega)).symm
  rw[c]at a;exact a
 omega
theorem vN:∀(a b:List Nat),j8 a b=(a==b)|[],[]=>rfl|[],_::_=>rfl|_::_,[]=>rfl|a::l,b::m=>by rw[j8,vN l m];rw[alE];simp
theorem Sq{op:BinOp}{k:IntKind}{x y:Int}{r:AV}(h:iK op (kc k) x y=some r)(a:op≠.shl/\op≠.shr)(t:TypeId)(w:World):∃c,(binOp op t (.int k x) (.int k y)).run P w=.ok c w/\VR ρ r c:=by
 cases op<;>simp only[iK]at h<;>(try cases h)<;>(try(exact absurd rfl a.1))<;>(try(exact absurd rfl a.2));·simp[binOp,Op.intArith,VR,xA]
 .simp[binOp,Op.intArith,VR,xA]
 .simp[binOp,Op.intArith,VR,xA]
 .split at h;·grind
  rename_i b;injection h with h;subst h;simp[b,binOp,Op.intDiv,VR,xA]
 .split at h;·grind
  rename_i b;injection h with h;subst h;simp[b,binOp,Op.intDiv,VR]
 .simp[ak5,binOp,Op.intBits,VR,ny,sV]
 .simp[ak5,binOp,Op.intBits,VR,ny,sV]
 .simp[ak5,binOp,Op.intBits,VR,ny,sV]
 .simp[ak5,binOp,Op.intBits,VR,ny,sV]
 .simp[bool,binOp,Op.intCmp,VR,fQ]
 .simp[bool,binOp,Op.intCmp,VR,fQ,bne]
 .simp[bool,decide,binOp,Op.intCmp,VR,nG]
 .exact⟨.bool (decide (x<=y)),by simp[binOp,Op.intCmp],by simp only[VR,nG];grind⟩
 .simp[bool,decide,binOp,Op.intCmp,VR,nG]
 exact⟨.bool (decide (y<=x)),by simp[binOp,Op.intCmp],by simp only[VR,nG];grind⟩
theorem Gz(op:BinOp)(t:TypeId)(x y:Operand)(k a:IntKind)(m n:Int)(w:World):(eqGuard op t x y (.int k m) (.int a n)).run P w=.ok () w:=by simp[eqGuard]
theorem Sr(h:ef P d ρ H w nt aa a){op:BinOp}{t t':TypeId}{x y:Operand}{k:IntKind}(s:o.op=.binOp op t x y t')(hu:P.underlying t=some (.int k))(b:op≠.shl/\op≠.shr)(l:bU P nt o=some ao)(he:aE ao aa H=some (v,H')):bE P d ρ w (execOp a.eval o) v H':=by
 have r:∃e f,hZ P nt x=some e/\hZ P nt y=some f/\ao=.arith op (kc k) e f:=by simp only[bU,s,iz,hu,ae5,alr]at l;cases op<;>simp only[aed,ajB,adG]at l<;>first|(exact absurd rfl b.1)|(exact absurd rfl b.2)|(obtain⟨e,h1,f,h2,h3⟩:=l;exact⟨e,f,h1,h2,h3.symm⟩)
 obtain⟨e,f,h1,h2,rfl⟩:=r;simp only[aE,aho,aj1]at he;obtain⟨q,g,rfl,rfl⟩:=he;have u:=h.gv h1;have z:=h.gv h2;unfold A9 at g;split at g
 .rename_i i m j n e1 e2;split at g;·rename_i p;simp only[aj6]at p;have G:i=kc k:=aj4 p.1;have J:j=kc k:=aj4 p.2;rw[e1]at u;rw[e2]at z;obtain⟨A,K,B⟩:=u.jQ;obtain⟨C,L,D⟩:=z.jQ;have:A=k:=xz af;subst this;have:C=A:=xz af;subst this;obtain⟨c,E,F⟩:=Sq (P:=P) (ρ:=ρ) g b t w;exact bE.val (c:=c) (w':=w) (by simp[s,B,D,E,execOp,Gz]) (dp.bX h.I F)
  grind
 grind
theorem Ss(h:ef P d ρ H w nt aa a){op:BinOp}{t t':TypeId}{x y:Operand}{k:IntKind}(l:o.op=.binOp op t x y t')(hu:P.underlying t=some (.int k))(g:op=.shl\/op=.shr)(s:bU P nt o=some ao)(he:aE ao aa H=some (v,H')):bE P d ρ w (execOp a.eval o) v H':=by
 have p:∃c e,hZ P nt x=some c/\hZ P nt y=some e/\ao=.shift op c e:=by rcases g with rfl|rfl<;>simp only[bU,l,iz,hu,ae5,alr,aed,ajB,adG]at s<;>(obtain⟨c,h1,e,h2,h3⟩:=s;exact⟨c,e,h1,h2,h3.symm⟩)
 obtain⟨c,e,h1,h2,rfl⟩:=p;simp only[aE,aho,aj1]at he;obtain⟨q,b,rfl,rfl⟩:=he;have u:=h.gv h1;have z:=h.gv h2;unfold De at b;split at b
 .rename_i i m j n e1 e2;rw[e1]at u;rw[e2]at z;obtain⟨f,r,A⟩:=u.jQ;obtain⟨D,C,B⟩:=z.jQ;subst r;rcases g with rfl|rfl;·simp only[adG]at b;subst b;refine bE.val (c:=.int f (f.wrap (m*2^(min n f.bits)))) (w':=w) ?_ (dp.bX h.I (by simp[VR,xA,sV]));simp[execOp,l,A,B,Gz,binOp,Op.shift];omega
  simp only[adG]at b;subst b;refine bE.val (c:=.int f (m.fdiv (2^(min n f.bits)))) (w':=w) ?_ (dp.bX h.I (by simp[VR,sV]));simp[execOp,l,A,B,Gz,binOp,Op.shift];omega
 grind
end
section
variable{P:Program}{h:cU}{ρ:aP}{H H':ai}{w:World}{nt:Nat}{aa:ap AV}{a:Act}{o:Oper}{ao:bW}{v:AV}
theorem Ld{x y:UInt8}(a:x.toNat=y.toNat):x=y:=UInt8.toNat_inj.1 a
theorem GA:∀{l m:List UInt8},l.map alv=m.map alv->l=m|[],[],_=>rfl|[],_::_,c=>by simp at c|_::_,[],c=>by simp at c|a::l,b::m,c=>by simp only[aj7,akn]at c;rw[Ld c.1,GA c.2]
theorem Lg(s t:ByteArray):(s.toList==t.toList)=j8 (s.data.toList.map alv) (t.data.toList.map alv):=by rw[ByteArray.toList_eq,ByteArray.toList_eq,vN,alE];simp only[beq_iff_eq];grind[GA]
theorem Lh:∀(l m:List UInt8),Op.bytesLess l m=rG (l.map alv) (m.map alv)
 |[],[]=>rfl
 |_::_,[]=>rfl
 |[],_::_=>rfl
 |a::l,b::m=>by
  simp only[Op.bytesLess,aj7,rG,Lh l m];have e1:decide (a<b)=akv a.toNat b.toNat:=by rw[alE];simp[akv,UInt8.lt_iff_toNat_lt];omega
  have e2:(a==b)=akb a.toNat b.toNat:=by rw[alE];simp only[beq_iff_eq,Nat.beq_eq];exact⟨λc=>by rw[c],Ld⟩
  grind
theorem GB:∀(l m:List Nat),(rG l m||j8 l m)=!rG m l
 |[],[]=>rfl
 |_::_,[]=>rfl
 |[],_::_=>rfl
 |a::l,b::m=>by
  simp only[rG,j8];have:=GB l m;rcases Nat.lt_trichotomy a b with d|d|d
  .have e1:akv a b=true:=by simp[akv];omega
   have e2:akv b a=false:=by rw[Bool.eq_false_iff];simp[akv];omega
   have c:akb b a=false:=by rw[Bool.eq_false_iff];simp;omega
   grind
  .subst d;have e1:akv a a=false:=by rw[Bool.eq_false_iff];simp[akv]
   simp_all
  have e1:akv a b=false:=by rw[Bool.eq_false_iff];simp[akv];omega
  have e2:akv b a=true:=by simp[akv];omega
  have c:akb a b=false:=by rw[Bool.eq_false_iff];simp;omega
  grind
theorem St(s t:ByteArray):(s++t).data.toList=s.data.toList++t.data.toList:=by rfl
theorem Su(op:BinOp)(t:TypeId)(x y:Operand)(m n:ByteArray)(w:World):(eqGuard op t x y (.string m) (.string n)).run P w=.ok () w:=by simp[eqGuard]
theorem Sv(F:ef P h ρ H w nt aa a){op:BinOp}{t t':TypeId}{x y:Operand}(n:o.op=.binOp op t x y t')(hu:P.underlying t=some .string)(p:bU P nt o=some ao)(he:aE ao aa H=some (v,H')):bE P h ρ w (execOp a.eval o) v H':=by
 have k:∃f g,hZ P nt x=some f/\hZ P nt y=some g/\ao=.iE op f g:=by cases op<;>simp only[bU,n,iz,hu,ae5,alr,aed,ajB,adG]at p<;>(obtain⟨f,h1,g,h2,h3⟩:=p;exact⟨f,g,h1,h2,h3.symm⟩)
 obtain⟨f,g,h1,h2,rfl⟩:=k;simp only[aE,aho,aj1]at he;obtain⟨q,b,rfl,rfl⟩:=he;have r:=F.gv h1;have u:=F.gv h2;unfold Ba at b;split at b
 .rename_i l m e1 e2;rw[e1]at r;rw[e2]at u;obtain⟨s,hs,z⟩:=r.nE;obtain⟨i,j,A⟩:=u.nE;have d:Op.bytesLess s.toList i.toList=rG l m:=by rw[ByteArray.toList_eq,ByteArray.toList_eq,Lh,hs,j]
  have e:(s.toList==i.toList)=j8 l m:=by rw[Lg,hs,j]
  have key:∃c,(Op.stringOp op s i).run P w=.ok c w/\VR ρ q c:=by
   have D:s.size=l.length:=by rw[<-hs,akg,akG];rfl
   have E:i.size=m.length:=by rw[<-j,akg,akG];rfl
   cases op<;>simp only at b<;>(try cases b)
   .split at b
    .rename_i hb;injection b with b;subst b;refine⟨.string (s++i),?_,?_⟩
     .simp only[Op.stringOp];rw[aq];·rfl
      have:IntKind.i64.max=9223372036854775807:=bA;rw[this];omega
     simp only[VR];rw[St,akE,hs,j]
    cases b
   .exact⟨_,rfl,by simp only[VR];exact e.symm⟩
   .exact⟨_,rfl,by simp only[VR];rw[e]⟩
   .exact⟨_,rfl,by simp only[VR];exact d.symm⟩
   .exact⟨_,rfl,by simp only[VR];rw[d,e,GB]⟩
   .exact⟨_,rfl,by simp only[VR];rw[d,e,GB];simp⟩
   exact⟨_,rfl,by simp only[VR];rw[d]⟩
  obtain⟨c,B,C⟩:=key;exact bE.val (c:=c) (w':=w) (by simp[execOp,n,z,A,Su,binOp,B]) (dp.bX F.I C)
 grind
theorem Sw(m:ef P h ρ H w nt aa a){op:UnOp}{t:TypeId}{x:Operand}(g:o.op=.unOp op t x)(j:bU P nt o=some ao)(he:aE ao aa H=some (v,H')):bE P h ρ w (execOp a.eval o) v H':=by
 simp only[bU,g,ae5,aed,ajB,adG]at j;obtain⟨l,h1,rfl⟩:=j;simp only[aE,aho,aj1]at he;obtain⟨q,c,rfl,rfl⟩:=he;have e:=m.gv h1;unfold Df at c;split at c;·rename_i k n e1;rw[e1]at e;obtain⟨d,i,f⟩:=e.jQ;subst i;injection c with c;subst c;exact bE.val (c:=.int d (d.wrap (0 - n))) (w':=w) (by simp[g,f,execOp,Op.unary,Op.intArith]) (dp.bX m.I (by simp[VR,xA]))
 .rename_i k n e1;rw[e1]at e;obtain⟨d,i,f⟩:=e.jQ;subst i;simp only[iK,sV,adG]at c;subst c;refine bE.val (c:=.int d (d.wrap (ak5 d.bits (if d.signed then -1 else d.max)^^^ak5 d.bits n).toNat)) (w':=w) (by simp[g,f,execOp,Op.unary,Op.intBits]) (dp.bX m.I ?_);simp[VR,ny,sV]
 .rename_i b e1;rw[e1]at e;have f:=e.rO;injection c with c;subst c;exact bE.val (c:=.bool (!b)) (w':=w) (by simp[g,f,execOp,Op.unary]) (dp.bX m.I (by rfl))
 grind
theorem Sx(i:ef P h ρ H w nt aa a){t:TypeId}{x:Operand}(f:o.op=.makeInterface t x)(b:bU P nt o=some ao)(he:aE ao aa H=some (v,H')):bE P h ρ w (execOp a.eval o) v H':=by
 simp only[bU,f,ae5,aed]at b;obtain⟨d,hd,b⟩:=b;have key:(∀m,d≠.interface m)/\∃c,hZ P nt x=some c/\ao=.lT t c:=by cases d<;>simp only[bq,aes,bP,aed,ajB,adG]at b<;>first|(cases b;done)|(obtain⟨c,h1,h2⟩:=b;exact⟨(λm e=>by cases e),c,h1,h2.symm⟩)
 obtain⟨g,c,h1,rfl⟩:=key;obtain⟨rfl,rfl⟩:=he;refine bE.val (c:=.iface t (a.eval x)) (w':=w) ?_ (dp.bX i.I (by simp only[VR];exact⟨trivial,i.gv h1⟩));simp only[execOp,f,Instr.makeInterface,Sem.run_bind,b8 hd,Result.andThen_ok];rfl
theorem Sy(d:ef P h ρ H w nt aa a){f:FuncId}{x y:Array Operand}(b:o.op=.makeFunc (.func f) x y)(c:bU P nt o=some ao)(he:aE ao aa H=some (v,H')):bE P h ρ w (execOp a.eval o) v H':=by simp only[bU,b,vM,ae5,aed,ajB,adG]at c;obtain⟨l,h1,m,h2,rfl⟩:=c;obtain⟨rfl,rfl⟩:=he;refine bE.val (c:=.func (.func f) (x.map a.eval) (y.map a.eval)) (w':=w) (by simp[b,execOp,Instr.makeFunc]) (dp.bX d.I ?_);simp only[VR,Array.toList_map];exact⟨trivial,zB d.E d.I h1,zB d.E d.I h2⟩
theorem Sz(g:ef P h ρ H w nt aa a){t:TypeId}(b:o.op=.makeMap t none)(c:bU P nt o=some ao)(he:aE ao aa H=some (v,H')):bE P h ρ w (execOp a.eval o) v H':=by simp only[bU,b,ajB,adG]at c;subst c;obtain⟨rfl,rfl⟩:=he;obtain⟨d,e,f⟩:=g.I.alloc (o:=.map [] 0) (ob:=.map #[] 0) (0,0) (by trivial) aB rfl (by trivial);exact bE.val (c:=.map (some w.heap.size)) (w':={w with heap:=w.heap.push (.map #[] 0)}) (by simp[b,execOp,Instr.makeMap]) ⟨_,d,by simp[VR,aP.fP],e,f⟩
theorem vO{l:List AV}{cs:Array Value}(hl:bj ρ l cs.toList){t:TypeId}{g:Bool}{off s:Nat}(hg:pi P t=some g)(hs:fY P t=some s){q:AV}(a:uo g l off s=some q):∃c,(part t cs off).run P w=.ok c w/\VR ρ q c:=by unfold uo at a;cases g with|true=>simp only[bq,adG]at a;subst a;simp[hg,hs,hl,part,By,jB,VR,Array.toList_extract,List.extract_eq_drop_take,bj.take,bj.drop]|false=>simp only[aes,bP,List.head?_drop]at a;obtain⟨c,h1,h2⟩:=bj.get hl off q a;simp_all[part,By]
theorem SA(A:ef P h ρ H w nt aa a){t:TypeId}{x:Operand}{i:Nat}(k:o.op=.field t x i)(b:bU P nt o=some ao)(he:aE ao aa H=some (v,H')):bE P h ρ w (execOp a.eval o) v H':=by
 simp only[bU,k,ae5,aed]at b;obtain⟨d,hd,b⟩:=b;split at b
 .simp only[aed,ajB,adG]at b;obtain⟨f,n,g,hg,s,hs,z,h1,rfl⟩:=b;simp only[aE]at he;have m:=A.gv h1;split at he;·rename_i l p;simp only[aho,aj1]at he;obtain⟨q,r,rfl,rfl⟩:=he;rw[p]at m;obtain⟨cs,e,u⟩:=m.sU;obtain⟨c,y,j⟩:=vO (P:=P) (w:=w) e hg hs r;exact bE.val (c:=c) (w':=w) (by simp[execOp,k,Instr.field,b8 hd,n,u,asAgg,y]) (dp.bX A.I j)
  grind
 grind
theorem SB(p:ef P h ρ H w nt aa a){t:TypeId}{x:Operand}{i:Nat}(g:o.op=.fieldAddr t x i)(c:bU P nt o=some ao)(he:aE ao aa H=some (v,H')):bE P h ρ w (execOp a.eval o) v H':=by
 simp only[bU,g,ae5,aed]at c;obtain⟨d,hd,c⟩:=c;split at c
 .simp only[aed]at c;obtain⟨f,k,s,hs,c⟩:=c;split at c;·grind
  rename_i e;simp only[aed,ajB,adG]at c;obtain⟨n,h1,rfl⟩:=c;simp only[aE]at he;have j:=p.gv h1;split at he;·rename_i id off l;obtain⟨rfl,rfl⟩:=he;rw[l]at j;obtain⟨b,z,hb,m⟩:=j.oO;refine bE.val (c:=.pointer (some ⟨b,z+off+f.offset,none⟩)) (w':=w) ?_ (dp.bX p.I (by simp[hb,VR,alo]));simp[execOp,g,Instr.fieldAt,b8 hd,k,m,Instr.sureAddr,fieldPlace,jB hs,e,uE]
  grind
 grind
theorem SC(r:ef P h ρ H w nt aa a){x:Operand}{i:Nat}(j:o.op=.extract x i)(e:bU P nt o=some ao)(he:aE ao aa H=some (v,H')):bE P h ρ w (execOp a.eval o) v H':=by
 simp only[bU,j,ae5,aed,ajB,adG]at e;obtain⟨n,h1,rfl⟩:=e;simp only[aE]at he;have f:=r.gv h1;split at he
 .rename_i l k;simp only[aho,aj1]at he;obtain⟨q,g,rfl,rfl⟩:=he;rw[k]at f;obtain⟨cs,b,p⟩:=f.Sc;have d:∀(l:List AV)(i:Nat),qF l i=l[i]?:=by intro l;induction l with|nil=>intro i;simp[qF]|cons y l m=>intro i;cases i with|zero=>simp[qF]|succ i=>simp[qF,m]
  rw[d]at g;obtain⟨c,e1,e2⟩:=bj.get b i q g;exact bE.val (c:=c) (w':=w) (by simp_all[execOp,Instr.extract]) (dp.bX r.I e2)
 grind
end
section
variable{P:Program}{f:cU}{ρ:aP}{H H':ai}{w:World}{nt:Nat}{aa:ap AV}{a:Act}{o:Oper}{ao:bW}{v:AV}
theorem SD(h:ef P f ρ H w nt aa a){t:TypeId}{x i:Operand}(q:o.op=.indexAddr t x i)(c:bU P nt o=some ao)(he:aE ao aa H=some (v,H')):bE P f ρ w (execOp a.eval o) v H':=by
 simp only[bU,q,ae5,aed]at c;obtain⟨d,hd,c⟩:=c;split at c
 .rename_i n e;simp only[aed,ajB,adG]at c;obtain⟨s,hs,y,h1,A,h2,rfl⟩:=c;simp only[aE]at he;have l:=h.gv h1;have m:=h.gv h2;split at he
  .rename_i id off k j r hj;split at he
   .rename_i g;obtain⟨rfl,rfl⟩:=he;rw[r]at l;rw[hj]at m;obtain⟨b,z,hb,u⟩:=l.oO;obtain⟨B,_,hi⟩:=m.jQ;have p:j<n:=by simpa[akv,Nat.succ_le_iff]using g
    refine bE.val (c:=.pointer (some ⟨b,z+off+j*s,none⟩)) (w':=w) ?_ (dp.bX h.I (by simp[hb,VR,alo]));simp[execOp,q,Instr.indexAt,hi,asIntOf,b8 hd,u,Instr.sureAddr,jB hs,uE];omega
   grind
  grind
 .simp only[aed,ajB,adG]at c;obtain⟨s,hs,y,h1,A,h2,rfl⟩:=c;simp only[aE]at he;have l:=h.gv h1;have m:=h.gv h2;split at he
  .rename_i id off len cap ex k j r hj;split at he
   .rename_i g;obtain⟨rfl,rfl⟩:=he;rw[r]at l;rw[hj]at m;obtain⟨ad,D,u,E,F,G,b,z,hb,C,J⟩:=l.pj;obtain⟨B,_,hi⟩:=m.jQ;have p:j<len:=by simpa[akv,Nat.succ_le_iff]using g
    have:=C af;subst this;refine bE.val (c:=.pointer (some ⟨b,z+off+j*s,none⟩)) (w':=w) ?_ (dp.bX h.I (by simp[hb,VR,alo]));simp[execOp,q,Instr.indexAt,hi,asIntOf,b8 hd,u,jB hs,uE];omega
   grind
  grind
 grind
theorem Li:∀(l:List Nat)(i:Nat),Bc l i=l[i]?|[],i=>by rfl|a::l,0=>by rfl|a::l,i+1=>by simp[Bc,Li l i]
theorem SE(h:ef P f ρ H w nt aa a){t:TypeId}{x i:Operand}(z:o.op=.index t x i)(b:bU P nt o=some ao)(he:aE ao aa H=some (v,H')):bE P f ρ w (execOp a.eval o) v H':=by
 simp only[bU,z,ae5,aed]at b;obtain⟨d,hd,b⟩:=b;split at b
 .rename_i n e;simp only[aed,ajB,adG]at b;obtain⟨g,hg,s,hs,J,h1,K,h2,rfl⟩:=b;simp only[aE]at he;have m:=h.gv h1;have p:=h.gv h2;split at he
  .rename_i l k j A hj;split at he
   .rename_i C;simp only[aho,aj1]at he;obtain⟨q,L,rfl,rfl⟩:=he;rw[A]at m;rw[hj]at p;obtain⟨cs,D,B⟩:=m.sU;obtain⟨M,_,hi⟩:=p.jQ;have r:j<n:=by simpa[akv,Nat.succ_le_iff]using C
    obtain⟨c,N,E⟩:=vO (P:=P) (w:=w) D hg hs L;refine bE.val (c:=c) (w':=w) ?_ (dp.bX h.I E);simp[execOp,z,Instr.index,hi,asIntOf,b8 hd,B,jB hs,r,N]
   grind
  grind
 .simp only[aed,ajB,adG]at b;obtain⟨J,h1,K,h2,rfl⟩:=b;simp only[aE]at he;have m:=h.gv h1;have p:=h.gv h2;split at he
  .rename_i s k j A hj;simp only[aho,aj1]at he;obtain⟨q,⟨n,y,rfl⟩,rfl,rfl⟩:=he;rw[A]at m;rw[hj]at p;obtain⟨t',O,B⟩:=m.nE;obtain⟨M,_,hi⟩:=p.jQ;rw[Li,<-O,aks,aho]at y;obtain⟨u,hu,y⟩:=y;have F:t'[j]?=some u:=by
    have:j<t'.size:=by have:=akR.1 hu;obtain⟨G,_⟩:=this;simpa using G
    rw[getElem?_pos t' j this];have e:=akR.1 hu;obtain⟨G,Q⟩:=e;rw[<-Q];rfl
   refine bE.val (c:=.int .u8 u.toNat) (w':=w) ?_ (dp.bX h.I (by simp[y,VR,kc]));simp[execOp,z,Instr.index,hi,asIntOf,b8 hd,B,F]
  grind
 grind
theorem DA{x:AV}{c:Value}(e:VR ρ x c){y b n:Nat}(h:oJ x y=some n)(g:y<=b)(code:Go.BoundsCode)(w:World):(Instr.sliceBound c b code).run P w=.ok n w/\n<=y:=by
 unfold oJ at h;split at h
 .rename_i k i;split at h;·rename_i a;injection h with h;subst h;obtain⟨j,_,rfl⟩:=e.jQ;have d:i<=y:=akc a;simp[Instr.sliceBound,asIntOf];omega
  grind
 grind
theorem SF{a:Type}(c:Prop) [Decidable c](x y:a):(if c then some x else some y)=some (if c then x else y):=by grind
theorem DB(h:ef P f ρ H w nt aa a){lo hi mx:Option Operand}{k n omx:Option aJ}(h1:nC P nt lo=some k)(h2:nC P nt hi=some n)(h3:nC P nt mx=some omx){len cap cap' m c l:Nat}(e1:jz aa omx cap cap=some m)(e2:jz aa n len m=some c)(s:jz aa k 0 c=some l)(o:cap<=cap')(r:mx.isSome=true->hi.isSome=true)(B:mx=none->hi=none->len<=cap)(b:Bool):(Instr.sliceBounds b len cap' (lo.map a.eval) (hi.map a.eval) (mx.map a.eval)).run P w=.ok (l,c,if mx.isSome then m else cap') w/\l<=c/\(c<=m)/\m<=cap/\(mx=none->m=cap):=by
 have A:∀{x:Option Operand}{t:Option aJ},nC P nt x=some t->(x=none/\t=none)\/∃y d,x=some y/\t=some d/\VR ρ (gv aa d) (a.eval y):=by intro x t u;cases x with|none=>simp only[nC,adG]at u;exact .inl ⟨rfl,u.symm⟩|some y=>simp only[nC,aho]at u;obtain⟨d,F,rfl⟩:=u;exact .inr ⟨y,d,rfl,rfl,h.gv F⟩
 have G:∃i,(match mx.map a.eval with|some v=>Instr.sliceBound v cap' (if b then .slice3Acap else .slice3Alen)|none=>pure cap':Sem Nat).run P w=.ok i w/\(i=if mx.isSome then m else cap')/\m<=cap/\m<=i/\(mx=none->m=cap):=by
  rcases A h3 with⟨rfl,rfl⟩|⟨y,d,rfl,rfl,j⟩;·simp only[jz,adG]at e1;subst e1;exact⟨cap',aB,aB,afb _,o,λ_=>rfl⟩
  simp only[jz]at e1;obtain⟨e,g⟩:=DA (P:=P) j e1 o (if b then .slice3Acap else .slice3Alen) w;exact⟨m,by simpa using e,aB,g,afb _,aB⟩
 obtain⟨i,J,K,C,p,q⟩:=G;have D:∃code,c<=m/\((match hi.map a.eval,mx.map a.eval with|some v,some _=>Instr.sliceBound v i .slice3B|some v,none=>Instr.sliceBound v i code|none,none=>pure len|none,some _=>stuck "Slice: max without high" :Sem Nat).run P w=.ok c w)/\code=(if b then .sliceAcap else .sliceAlen):=by
  refine⟨if b then .sliceAcap else .sliceAlen,?_⟩;rcases A h2 with⟨rfl,rfl⟩|⟨y,d,rfl,rfl,j⟩;·simp only[jz,adG]at e2;subst e2;cases mx with|none=>refine⟨?_,aB,rfl⟩;rw[q rfl];exact B rfl rfl|some y=>simp at r
  simp only[jz]at e2;cases mx with|none=>obtain⟨e,g⟩:=DA (P:=P) j e2 p (if b then .sliceAcap else .sliceAlen) w;exact⟨g,by simpa using e,rfl⟩|some z=>obtain⟨e,g⟩:=DA (P:=P) j e2 p .slice3B w;exact⟨g,by simpa using e,rfl⟩
 obtain⟨code,I,L,rfl⟩:=D;have E:l<=c/\(match lo.map a.eval with|some v=>Instr.sliceBound v c (if mx.isSome then .slice3C else .sliceB)|none=>pure 0:Sem Nat).run P w=.ok l w:=by
  rcases A h1 with⟨rfl,rfl⟩|⟨y,d,rfl,rfl,j⟩;·simp only[jz,adG]at s;subst s;exact⟨af,aB⟩
  simp only[jz]at s;obtain⟨e,g⟩:=DA (P:=P) j s (afb _) (if mx.isSome then .slice3C else .sliceB) w;exact⟨g,by simpa using e⟩
 refine⟨?_,E.1,I,C,q⟩;cases mx<;>cases hi<;>cases lo<;>simp_all[Instr.sliceBounds]
theorem SG(i:bz P f ρ H w){id:ab}{b z e s:Nat}(hb:ρ id=some (b,z))(h:sM H id e=true)(hs:fY P e=some s):(ρ.k b).2=s:=by
 unfold sM at h;split at h
 .rename_i c n m l aM fz hi;have he:=aj4 h;subst he;have a:H.get id≠.none:=by rw[hi];simp
  obtain⟨o,p,j,e1,_,g,d⟩:=i.aH a;rw[hb]at e1;injection e1 with e1;injection e1 with e1 e2;subst e1;subst e2;have:=i.ka id b z j a hb g;rw[hi]at this d;cases j<;>simp only[OR]at d;simp only[gS]at this;rw[this];simp[hs]
 grind
theorem SH(h:ef P f ρ H w nt aa a){t:TypeId}{x:Operand}{lo hi mx:Option Operand}(J:o.op=.slice t x lo hi mx)(c:bU P nt o=some ao)(he:aE ao aa H=some (v,H')):bE P f ρ w (execOp a.eval o) v H':=by
 simp only[bU,J,ae5,aed]at c;obtain⟨d,hd,c⟩:=c;split at c
 .rename_i n e;split at c;·cases c
  rename_i T;simp only[aed,ajB,adG]at c;obtain⟨s,hs,ox,h1,D,h2,L,h3,omx,A,rfl⟩:=c;simp only[aE]at he;have i:=h.gv h1;split at he
  .rename_i id off B;simp only[ae5,aed,adG,aj1]at he;obtain⟨m,e1,j,e2,l,k,rfl,rfl⟩:=he;rw[B]at i;obtain⟨b,z,hb,C⟩:=i.oO;obtain⟨p,Q,R,S,K⟩:=DB h h2 h3 A e1 e2 k (afb n) (λh=>by cases hi<;>simp_all) (λ_ _=>afb _) false;have V:(if mx.isSome then m else n)=m:=by cases mx with|none=>simp[K rfl]|some y=>simp
   rw[V]at p;refine bE.val (c:=.slice (some (if m=l then⟨b,z+off,none⟩else(⟨b,z+off,none⟩:Addr).add (l*s))) (j - l) (m - l)) (w':=w) ?_ (dp.bX h.I ?_);·simp only[execOp,J,Instr.sliceAt,Sem.run_bind,b8 hd,Result.andThen_ok,C,Instr.sureAddr,Sem.run_pure,p,jB hs]
   simp only[VR];refine⟨trivial,af,afb _,λ_=>trivial,b,z,hb,λr=>?_,λh=>by cases h⟩;rw[aq af,aq af,uE,alo]
  cases he
 .rename_i e;split at c;·cases c
  rename_i T;simp only[aed]at c;obtain⟨s,hs,c⟩:=c;split at c;·cases c
  simp only[aed,ajB,adG]at c;obtain⟨ox,h1,D,h2,L,h3,omx,A,rfl⟩:=c;simp only[aE]at he;have i:=h.gv h1;have E:mx.isSome=true->hi.isSome=true:=λh=>by cases hi<;>simp_all
  split at he;·rename_i B;simp only[ae5,aed,adG,aj1]at he;obtain⟨m,e1,j,e2,l,k,rfl,rfl⟩:=he;rw[B]at i;have C:=i.nF;obtain⟨p,Q,R,S,K⟩:=DB h h2 h3 A e1 e2 k (afb 0) E (λ_ _=>afb _) true;have W:m=0:=af;have X:j=0:=af;have Y:l=0:=af;subst W;subst X;subst Y;refine bE.val (c:=.slice none 0 0) (w':=w) ?_ (dp.bX h.I (by simp[VR]));simp only[execOp,J,Instr.sliceAt,Sem.run_bind,b8 hd,Result.andThen_ok,C,Instr.slice,p,jB hs];cases mx<;>simp
  .rename_i id off len cap ex B;simp only[ae5,aed,adG,aj1]at he;obtain⟨m,e1,j,e2,l,k,he⟩:=he;split at he;case isFalse=>cases he
   rename_i F;simp only[adG,aj1]at he;obtain⟨rfl,rfl⟩:=he;rw[B]at i;obtain⟨ad,O,C,q1,q2,q3,b,z,hb,q4,q5⟩:=i.pj;obtain⟨p,Q,R,S,K⟩:=DB h h2 h3 A e1 e2 k q2 E (λ_ _=>q1) true;refine bE.val (c:=.slice (some (if(if mx.isSome then m else O)=l then ad else ad.add (l*s))) (j - l) ((if mx.isSome then m else O) - l)) (w':=w) ?_ (dp.bX h.I ?_);·simp only[execOp,J,Instr.sliceAt,Sem.run_bind,b8 hd,Result.andThen_ok,C,Instr.slice,p,jB hs];simp only[akt];rw[SF];simp
   simp only[VR];cases mx with
   |none=>
    have:=K rfl;subst this;simp only[nC,adG]at A;subst A;refine⟨trivial,af,by simp;omega,λg=>?_,b,z,hb,λr=>?_,λg=>?_⟩;rotate_left 2
    .simp only[Option.isSome_none,Bool.or_false,aes,bP]at g F⊢;subst g;have h6:=q5 rfl;simp only[Bool.false_or,alf,Nat.beq_eq_true_eq,Bool.false_and,aes,bP]at F⊢;rcases F with h0|h0
     .have h0:l=0:=by cases M:D with|none=>rw[M]at k;simpa[jz]using k.symm|some q=>rw[M]at h0;simp at h0
      subst h0;simpa using h6
     have Z:=SG h.I hb h0 hs;rw[Z]at h6⊢;have:l*s+(O - l)*s=O*s:=by rw[<-alB];congr 1;omega
     omega
    .simp at g⊢;rw[q3 g]
    simp only[Option.isSome_none,aes,bP]at r⊢;have G:=q4 af;subst G;rw[aq af,aq (by intro u;simp only[aj6,decide_eq_true_eq]at u;have:=q3 u.1;omega),uE,alo]
   |some y=>simp only[nC,aho]at A;obtain⟨oy,_,rfl⟩:=A;refine⟨trivial,af,aB,λ_=>by simp,b,z,hb,λr=>?_,λh=>by simp at h⟩;simp only[Option.isSome_some,bq]at r⊢;have G:=q4 af;subst G;rw[aq af,aq (by intro u;simp only[aj6,decide_eq_true_eq]at u;omega),uE,alo]
  cases he
 .split at c;·cases c
  rename_i E;simp only[aed,ajB,adG]at c;obtain⟨ox,h1,D,h2,L,h3,rfl⟩:=c;have N:mx=none:=by cases mx<;>simp_all
  subst N;simp only[aE]at he;have i:=h.gv h1;split at he
  .rename_i s B;simp only[ae5,aed,adG,aj1]at he;obtain⟨j,e2,l,k,rfl,rfl⟩:=he;rw[B]at i;obtain⟨t',ht,C⟩:=i.nE;have ag:t'.size=s.length:=by rw[<-ht,akg,akG];rfl
   obtain⟨p,Q,R,S,K⟩:=DB (mx:=none) (omx:=none) h h2 h3 rfl (m:=s.length) (cap:=s.length) (cap':=s.length) rfl e2 k (afb _) aB (λ_ _=>afb _) false;refine bE.val (c:=.string (t'.extract l j)) (w':=w) ?_ (dp.bX h.I ?_);·simp only[execOp,J,Instr.sliceAt,Sem.run_bind,b8 hd,Result.andThen_ok,C,Instr.slice,Option.map_none,Option.isSome_none,aes,bP];simp only[Option.map_none]at p;rw[ag];simp[p]
   simp only[VR];rw[show(t'.extract l j).data.toList=(t'.data.toList.drop l).take (j - l)by rw[ByteArray.data_extract,Array.toList_extract,List.extract_eq_drop_take]];rw[List.map_take,List.map_drop,ht]
  cases he
 grind
end
section
variable{P:Program}{f:cU}{ρ:aP}{H H':ai}{w:World}{nt:Nat}{aa:ap AV}{a:Act}{o:Oper}{ao:bW}{v:AV}
theorem vP{c:Call}{b:Builtin}(e:o.op=.call c)(hb:c.callee=.builtin b)(w:World):∃d,(execOp a.eval o).run P w=(builtin b c.argTypes o.type d (c.args.map a.eval)).run P w:=by exact⟨_,by simp only[execOp,e,resolve,hb,Sem.run_bind,Sem.run_pure,Result.andThen_ok,invoke];rfl⟩
theorem Lj{c:Call}{i:Nat}{x:aJ}(h:(c.args[i]?).bind (hZ P nt)=some x):∃y,c.args[i]?=some y/\hZ P nt y=some x/\(c.args.map a.eval)[i]?=some (a.eval y):=by grind
theorem VR.goInt(ρ:aP)(n:Nat):VR ρ (.int 3 (.ofNat n)) (goInt n):=by trivial
theorem cr.length:∀{l:List aT}{m:List MapEntry},cr ρ l m->l.length=m.length|[],[],_=>rfl|_::_,_::_,h=>by simp[cr.length h.2.2.2]|[],_::_,h=>by trivial|_::_,[],h=>by trivial
theorem rP(d:bz P f ρ H w){id:ab}{es:List aT}{a:Nat}(g:H.get id=.map es a){b:Nat}(hb:ρ id=some (b,0)):∃bx:Array MapEntry,w.heap[b]?=some (.map bx a)/\cr ρ es bx.toList:=by obtain⟨j,x,h,e,hl,i,c⟩:=d.aH (i:=id) (by grind);rw[hb]at e;injection e with e;injection e with e1 e2;subst e1;rw[g]at c;cases h<;>simp only[OR]at c;grind
theorem xB(c:bz P f ρ H w){id:ab}{es:List aT}{a:Nat}(h:H.get id=.map es a){b:Nat}(hb:ρ id=some (b,0)){bx:Array MapEntry}{k:Nat}(i:w.heap[b]?=some (.map bx k)):ke bx k:=by obtain⟨j,x,l,e,hl,d,g⟩:=c.aH (i:=id) (by grind);grind[OR]
theorem dP.length:∀{l:List aT}{m:List MapEntry},dP ρ l m->l.length=m.length|[],[],_=>rfl|_::_,_::_,h=>by simp[dP.length h.2.2]|[],_::_,h=>by trivial|_::_,[],h=>by trivial
theorem SJ(d:bz P f ρ H w){id:ab}{es:List aT}(g:H.get id=.dI es){b:Nat}(hb:ρ id=some (b,0)):∃(bx:Array MapEntry)(a:Nat)(l:List MapEntry),w.heap[b]?=some (.map bx a)/\l.Perm bx.toList/\dP ρ es l:=by obtain⟨j,x,h,e,hl,i,c⟩:=d.aH (i:=id) (by grind);rw[hb]at e;injection e with e;injection e with e1 e2;subst e1;rw[g]at c;cases h<;>simp only[OR]at c;grind
theorem oP{b:Nat}{bx:Array MapEntry}{a:Nat}(h:w.heap[b]?=some (.map bx a)):(getObj b).run P w=.ok (.map bx a) w:=by simp[h,getObj,Sem.run]
theorem SK(h:ef P f ρ H w nt aa a){c:Call}(F:o.op=.call c)(hb:c.callee=.builtin .len)(g:bU P nt o=some ao)(he:aE ao aa H=some (v,H')):bE P f ρ w (execOp a.eval o) v H':=by
 simp only[bU,F,hb,ae5,aed]at g;obtain⟨t,m,d,hd,g⟩:=g;obtain⟨s,i⟩:=vP (P:=P) (a:=a) F hb w;split at g;·rename_i n e;rw[aed]at g;obtain⟨x,j,g⟩:=g;injection g with g;subst g;obtain⟨y,_,_,k⟩:=Lj (a:=a) j;obtain⟨rfl,rfl⟩:=he;refine bE.val (c:=goInt n) (w':=w) ?_ (dp.bX h.I (VR.goInt ρ n));rw[i];simp[builtin,Builtin.len_,m,k,b8 hd]
 .rw[aed]at g;obtain⟨L,B,g⟩:=g;split at g;·rename_i n e2;rw[aed]at g;obtain⟨x,j,g⟩:=g;injection g with g;subst g;obtain⟨y,_,_,k⟩:=Lj (a:=a) j;obtain⟨rfl,rfl⟩:=he;refine bE.val (c:=goInt n) (w':=w) ?_ (dp.bX h.I (VR.goInt ρ n));rw[i];simp[builtin,Builtin.len_,m,k,b8 hd,b8 B]
  cases g
 all_goals(try(cases g;done))
 all_goals
  simp only[aed,ajB,adG]at g;obtain⟨x,⟨G,C,D⟩,rfl⟩:=g;have k:(c.args.map a.eval)[0]?=some (a.eval G):=by simp[C]
  have p:=h.gv D;simp only[aE]at he;split at he<;>(try(cases he;done))<;>rename_i J<;>rw[J]at p
 .obtain⟨rfl,rfl⟩:=he;obtain⟨t',E,j⟩:=p.nE;refine bE.val (c:=goInt t'.size) (w':=w) ?_ (dp.bX h.I ?_);·rw[i];simp[builtin,Builtin.len_,m,k,b8 hd,j]
  rw[<-E,akg,akG];exact VR.goInt ρ t'.size
 .simp only[adG,aj1]at he;obtain⟨rfl,rfl⟩:=he;obtain⟨ad,M,j,_⟩:=p.pj;refine bE.val (c:=goInt _) (w':=w) ?_ (dp.bX h.I (VR.goInt ρ _));rw[i];simp[builtin,Builtin.len_,m,k,b8 hd,j]
 .simp only[adG,aj1]at he;obtain⟨rfl,rfl⟩:=he;have j:=p.nF;refine bE.val (c:=goInt 0) (w':=w) ?_ (dp.bX h.I (VR.goInt ρ 0));rw[i];simp[builtin,Builtin.len_,m,k,b8 hd,j]
 .simp only[adG,aj1]at he;obtain⟨rfl,rfl⟩:=he;have j:=p.uG;refine bE.val (c:=goInt 0) (w':=w) ?_ (dp.bX h.I (VR.goInt ρ 0));rw[i];simp[builtin,Builtin.len_,m,k,b8 hd,j]
 split at he
 .rename_i es r u;simp only[adG,aj1]at he;obtain⟨rfl,rfl⟩:=he;obtain⟨b,q,j⟩:=p.po;obtain⟨bx,z,A⟩:=rP h.I u q;refine bE.val (c:=goInt bx.size) (w':=w) ?_ (dp.bX h.I ?_);·rw[i];simp[builtin,Builtin.len_,m,k,b8 hd,j,oP z]
  rw[cr.length A,akG];exact VR.goInt ρ bx.size
 .rename_i es u;simp only[adG,aj1]at he;obtain⟨rfl,rfl⟩:=he;obtain⟨b,q,j⟩:=p.po;obtain⟨bx,r,l,z,A,K⟩:=SJ h.I u q;refine bE.val (c:=goInt bx.size) (w':=w) ?_ (dp.bX h.I ?_);·rw[i];simp[builtin,Builtin.len_,m,k,b8 hd,j,oP z]
  rw[dP.length K,A.length_eq,akG];exact VR.goInt ρ bx.size
 cases he
theorem SL(h:ef P f ρ H w nt aa a){c:Call}(m:o.op=.call c)(hb:c.callee=.builtin .cap)(b:bU P nt o=some ao)(he:aE ao aa H=some (v,H')):bE P f ρ w (execOp a.eval o) v H':=by
 simp only[bU,m,hb,ae5,aed]at b;obtain⟨t,n,d,hd,b⟩:=b;obtain⟨g,e⟩:=vP (P:=P) (a:=a) m hb w;split at b
 .simp only[aed,ajB,adG]at b;obtain⟨x,⟨q,k,l⟩,rfl⟩:=b;have p:(c.args.map a.eval)[0]?=some (a.eval q):=by simp[k]
  have i:=h.gv l;simp only[aE]at he;split at he<;>(try(cases he;done))<;>rename_i r<;>rw[r]at i;·simp only[adG,aj1]at he;obtain⟨rfl,rfl⟩:=he;obtain⟨ad,u,j,_,_,s,_⟩:=i.pj;have:=s rfl;subst this;refine bE.val (c:=goInt _) (w':=w) ?_ (dp.bX h.I (VR.goInt ρ _));rw[e];simp[builtin,Builtin.cap_,n,p,b8 hd,j]
  simp only[adG,aj1]at he;obtain⟨rfl,rfl⟩:=he;have j:=i.nF;refine bE.val (c:=goInt 0) (w':=w) ?_ (dp.bX h.I (VR.goInt ρ 0));rw[e];simp[builtin,Builtin.cap_,n,p,b8 hd,j]
 grind
theorem Lk(a:Bool):∀(l:List AV)(m:List Value)(x:AV)(c:Value)(r:AV),VR ρ x c->bj ρ l m->zf a x l=some r->∃q,(m.foldlM (if a then Builtin.max2 else Builtin.min2) c).run P w=.ok q w/\VR ρ r q
 |[],[],x,c,r,t,_,h=>by simp_all[zf,adG]
 |y::l,d::m,x,c,r,t,hl,h=>by
  unfold zf at h;split at h;·grind
  .rename_i k n j b u o;split at h
   .rename_i v;injection o with e1 e2;subst e1;subst e2;obtain⟨e,g,rfl⟩:=t.jQ;obtain⟨z,A,rfl⟩:=hl.1.jQ;have p:e=z:=xz (by have:=aj4 v;omega);subst p;have i:∃q,((if a then Builtin.max2 else Builtin.min2) (.int e n) (.int e b)).run P w=.ok q w/\VR ρ (.int k (if a then(if lV n b then b else n)else(if lV b n then b else n))) q:=by
     cases a;·refine⟨.int e (if b<n then b else n),by simp[Builtin.min2],?_⟩;simp[VR,g,nG]
     refine⟨.int e (if b>n then b else n),by simp[Builtin.max2],?_⟩;simp[VR,g,nG]
    obtain⟨q,B,s⟩:=i;obtain⟨C,h1,h2⟩:=Lk a _ _ _ _ _ s hl.2 h;simp_all
   grind
  grind
 |[],_::_,_,_,_,_,hl,_=>by trivial
 |_::_,[],_,_,_,_,hl,_=>by trivial
theorem Ll(h:ef P f ρ H w nt aa a){c:Call}{isMax:Bool}(n:o.op=.call c)(hb:c.callee=.builtin (if isMax then .max else .min))(p:bU P nt o=some ao)(he:aE ao aa H=some (v,H')):bE P f ρ w (execOp a.eval o) v H':=by
 have i:∃l,c.args.toList.mapM (hZ P nt)=some l/\ao=.qD isMax l:=by cases isMax<;>simp only[bq,bP,aes]at hb<;>simp only[bU,n,hb,vM,ae5,aed,ajB,adG]at p<;>(obtain⟨l,h1,h2⟩:=p;exact⟨l,h1,h2.symm⟩)
 obtain⟨l,h1,rfl⟩:=i;obtain⟨e,j⟩:=vP (P:=P) (a:=a) n hb w;have g:=zB h.E h.I h1;simp only[aE]at he;split at he;·rename_i x b hl;simp only[aho,aj1]at he;obtain⟨q,r,rfl,rfl⟩:=he;rw[hl]at g;have k:(c.args.map a.eval).toList=c.args.toList.map a.eval:=aB;cases s:c.args.toList.map a.eval with|nil=>simp_all|cons d m=>rw[s]at g;obtain⟨t,y,u⟩:=Lk (P:=P) (w:=w) isMax b m x d q g.1 g.2 r;refine bE.val (c:=t) (w':=w) ?_ (dp.bX h.I u);rw[j];cases isMax;all_goals simp_all[aes,bP,builtin,Builtin.min_,bq,Builtin.max_]
 grind
end
section
variable{P:Program}{b:cU}{ρ:aP}{H H':ai}{w:World}{nt:Nat}{aa:ap AV}{a:Act}{o:Oper}{ao:bW}{v:AV}
theorem BA(a:List AV):∀n,(fO a n).length=n*a.length|0=>by simp[fO]|n+1=>by simp[fO,BA a n,Nat.succ_mul];omega
theorem Lm(a:List AV):∀(n i:Nat),i<n*a.length->(fO a n)[i]?=a[i % a.length]?
 |0,i,h=>by omega
 |n+1,i,h=>by
  simp only[fO];by_cases hi:i<a.length;·simp[hi,akw,Nat.mod_eq_of_lt]
  rw[List.getElem?_append_right af,Lm a n _ (by grind)];simp_all[Nat.mod_eq_sub_mod]
theorem DC{a:List AV}{cs:Array Value}(h:bj ρ a cs.toList)(n:Nat)(hs:a.length≠0):bj ρ (fO a n) ((alP (n*cs.size)).map (cs[·% cs.size]!)).toList:=by
 have hl:=bj.length h;simp only[akG]at hl;refine bj.Gt (by simp[hl,BA]) ?_;intro i v c e f;have hi:i<n*a.length:=by
  rcases akW i (n*a.length)with h|h;·exact h
  rw[List.getElem?_eq_none (by rw[BA];exact h)]at e;cases e
 rw[Lm a n i hi]at e;obtain⟨d,hd,g⟩:=bj.get h _ v e;grind
theorem Ln:∀(l:List Value)(cs:Array Value)(off j:Nat),(l.zipIdx j).foldl (λcs(p:Value×Nat)=>cs.setIfInBounds (off+p.2) p.1) cs=wr cs (off+j) l|[],cs,off,j=>rfl|v::l,cs,off,j=>by simp only[List.zipIdx_cons,List.foldl_cons,wr];rw[Ln l _ off (j+1)];rfl
theorem GC:∀(off:Nat)(l a e:List AV)(cs d:List Value),uq l off a=some e->bj ρ l cs->bj ρ a d->off+d.length<=cs.length/\bj ρ e (cs.take off++d++cs.drop (off+d.length))
 |0,l,[],e,cs,[],h,hl,_=>by simp_all[uq,adG]
 |0,x::l,v::a,e,c::cs,m::d,h,hl,g=>by
  simp only[uq]at h;split at h;·rename_i i f;injection h with h;subst h;obtain⟨j,k⟩:=GC 0 l a i cs d f hl.2 g.2;simp_all[alm,ak0,akV,bj,akh,akA,List.drop_succ_cons]
  grind
 |off+1,x::l,a,e,c::cs,d,h,hl,g=>by
  simp only[uq]at h;split at h;·rename_i i f;injection h with h;subst h;obtain⟨j,k⟩:=GC off l a i cs d f hl.2 g;grind[bj]
  grind
 |off+1,[],a,e,_,_,h,_,_=>by trivial
 |0,[],v::a,e,_,_,h,_,_=>by trivial
 |0,_,[],_,_,_::_,_,_,g=>by trivial
 |0,_,_::_,_,_,[],_,_,g=>by trivial
 |0,_::_,_,_,[],_,_,hl,_=>by trivial
 |_+1,_::_,_,_,[],_,_,hl,_=>by trivial
theorem SM(l:List Value)(cs:Array Value)(off:Nat)(h:off+l.length<=cs.size):(wr cs off l).toList=cs.toList.take off++l++cs.toList.drop (off+l.length):=by apply List.ext_getElem?;intro j;rw[alc,Bu l cs off j h];by_cases h1:j<off;all_goals grind
theorem DD(h:ef P b ρ H w nt aa a)(c:Nat->Option (Nat×Nat)):∀(fi:List (Nat×Operand))(l:List (Nat×Nat×aJ))(g r:List AV)(cs:Array Value),fi.mapM (λp=>(c p.1).bind λq=>(hZ P nt p.2).map λx=>(q.1,q.2,x))=some l->bj ρ g cs.toList->oI aa g l=some r->∃d,Instr.fill c cs (fi.map λp=>(p.1,a.eval p.2))=some d/\bj ρ r d.toList/\d.size=cs.size
 |[],l,g,r,cs,i,k,hl=>by simp at i;subst i;simp only[oI,adG]at hl;subst hl;exact⟨cs,rfl,k,rfl⟩
 |p::fi,l,g,r,cs,i,k,hl=>by
  simp only[alw,ae5,aed,ajB,adG,aho]at i;obtain⟨t,⟨q,y,x,z,rfl⟩,A,m,rfl⟩:=i;simp only[oI]at hl;split at hl
  .rename_i e;simp only[aj6,decide_eq_true_eq]at e;obtain⟨n,e⟩:=e;split at hl
   .rename_i s o;have j:=VR.cells (h.gv z) n;have f:=bj.length j;simp only[akG]at f;obtain⟨u,v⟩:=GC q.1 g (gv aa x).cells s cs.toList (a.eval p.2).cells.toList o k j;simp only[akG]at u;have B:=SM (a.eval p.2).cells.toList cs q.1 (by simpa using u);rw[<-B]at v;obtain⟨d,C,D,E⟩:=DD h c fi A s r _ m v hl;refine⟨d,?_,D,by rw[E,uF]⟩;simp only[aj7,Instr.fill,y];rw[aq];·rw[<-Array.foldl_toList,Array.toList_zipIdx];have:=Ln (a.eval p.2).cells.toList cs q.1 0;simp only[alG]at this;rw[this];exact C
    simp;omega
   cases hl
  cases hl
theorem SN(h:ef P b ρ H w nt aa a){t:TypeId}{fi:Array (Nat×Operand)}(y:o.op=.build t fi)(g:bU P nt o=some ao)(he:aE ao aa H=some (v,H')):bE P b ρ w (execOp a.eval o) v H':=by
 simp only[bU,y,ae5,aed]at g;obtain⟨z,D,d,hd,g⟩:=g;obtain⟨zv,m,n,u⟩:=uH D;split at g
 .rename_i fs;simp only[aed,ajB,adG]at g;obtain⟨c,B,l,hl,rfl⟩:=g;simp only[aE,aho,aj1]at he;obtain⟨q,⟨r,A,rfl⟩,rfl,rfl⟩:=he;obtain⟨j,E,F,_⟩:=DD h (λi=>c[i]?) fi.toList l z.cells r zv.cells hl (VR.cells (n ρ) u) A;have e:(fs.mapM λ(f:Field)=>(do pure (f.offset,<-sizeOf f.type):Sem (Nat×Nat))).run P w=.ok c.toArray w:=by
   rw[Array.mapM_eq_mapM_toList];have:∀(k:List Field)(pl:List (Nat×Nat)),k.mapM (λ(f:Field)=>(fY P f.type).map λs=>(f.offset,s))=some pl->(k.mapM λ(f:Field)=>(Prod.mk f.offset<$>sizeOf f.type:Sem (Nat×Nat))).run P w=.ok pl w:=by intro k;induction k with|nil=>intro pl h;simp at h;subst h;simp|cons f k G=>intro pl h;simp only[alw,ae5,aed,ajB,adG,aho]at h;obtain⟨_,⟨s,hs,rfl⟩,C,h2,rfl⟩:=h;simp[alw,jB hs,G C h2]
   simp[this fs.toList c B]
  refine bE.val (c:=.agg j) (w':=w) ?_ (dp.bX h.I (by trivial));simp only[execOp,y,Instr.build,Sem.run_bind,m,Result.andThen_ok,b8 hd,e];simp_all
 .simp only[aed,ajB,adG]at g;obtain⟨s,hs,l,hl,rfl⟩:=g;simp only[aE,aho,aj1]at he;obtain⟨q,⟨r,A,rfl⟩,rfl,rfl⟩:=he;obtain⟨j,E,F,_⟩:=DD h (λi=>some (i*s,s)) fi.toList l z.cells r zv.cells (by grind) (VR.cells (n ρ) u) A;refine bE.val (c:=.agg j) (w':=w) ?_ (dp.bX h.I (by trivial));have:(fi.map λx=>match x with|(i,x)=>(i,a.eval x)).toList=fi.toList.map λp=>(p.1,a.eval p.2):=aB;simp only[execOp,y,Instr.build,Sem.run_bind,m,Result.andThen_ok,b8 hd,jB hs];simp_all
 grind
end
section
variable{P:Program}{f:cU}{ρ:aP}{H H':ai}{w:World}{nt:Nat}{aa:ap AV}{a:Act}{o:Oper}{ao:bW}{v:AV}
theorem SO(h:ef P f ρ H w nt aa a){t:TypeId}{len:Nat}{fi:Array (Nat×Operand)}(E:o.op=.buildSlice t len fi)(b:bU P nt o=some ao)(he:aE ao aa H=some (v,H')):bE P f ρ w (execOp a.eval o) v H':=by
 simp only[bU,E,ae5,aed]at b;obtain⟨d,hd,b⟩:=b;split at b
 .rename_i e;simp only[aed]at b;obtain⟨s,hs,z,F,b⟩:=b;split at b;·cases b
  rename_i C;simp only[aed,ajB,adG]at b;obtain⟨l,hl,rfl⟩:=b;simp only[aE]at he;split at he
  .rename_i r G;split at he
   .rename_i h1;simp only[adG,aj1]at he;obtain⟨rfl,rfl⟩:=he;obtain⟨zv,j,q,u⟩:=uH F;have k:=VR.cells (q ρ) u;have y:=bj.length k;simp only[akG]at y;have c:zv.cells.size=s:=af;have m:=DC (ρ:=ρ) k len af;obtain⟨A,n,J,N⟩:=DD h (λi=>some (i*s,s)) fi.toList l (fO z.cells len) r ((alP (len*zv.cells.size)).map (zv.cells[·% zv.cells.size]!)) (by simpa using hl) m G;obtain⟨K,L,M⟩:=zC h.I J e r.length rfl [];refine bE.val (c:=.slice (some ⟨w.heap.size,0,none⟩) len len) (w':={w with heap:=w.heap.push (.cells (A.toList++[]).toArray e (0,0))}) ?_ ⟨_,K,?_,L,M⟩
    .have:(fi.map λx=>match x with|(i,x)=>(i,a.eval x)).toList=fi.toList.map λp=>(p.1,a.eval p.2):=aB;simp only[execOp,E,Instr.buildSlice,Sem.run_bind,b8 hd,Result.andThen_ok,jB hs,Sem.run_ite];rw[aq af];have D:(if len*s=0 then(Sem.run P (pure #[]) w:Result (Array Value))else Sem.run P (do pure (<-zeroValue e).cells) w)=.ok (if len*s=0 then #[]else zv.cells) w:=by split<;>simp[j]
     by_cases g:len*s=0
     .rw[aK g];simp only[Sem.run_pure,Result.andThen_ok];have B:((alP (len*s)).map λx=>(#[]:Array Value)[x %(#[]:Array Value).size]!)=((alP (len*zv.cells.size)).map (zv.cells[·% zv.cells.size]!)):=by rw[c,g];simp
      rw[B,this,n];simp[newRow]
     rw[aq g];simp only[Sem.run_bind,j,Sem.run_pure,Result.andThen_ok];rw[this];rw[c]at n;rw[c,n];simp[newRow]
    simp only[VR];exact⟨trivial,afb _,afb _,λ_=>trivial,_,_,aP.fP ..,λ_=>by simp,λh=>by cases h⟩
   cases he
  cases he
 grind
theorem SP(X:Array Value):(X.toList++[]).toArray=X:=aB
theorem vQ{n:Nat}(h:fw n=true):n<=70368744177664:=akc h
theorem SQ(h:ef P f ρ H w nt aa a){t:TypeId}{x y:Operand}(O:o.op=.makeSlice t x y)(b:bU P nt o=some ao)(he:aE ao aa H=some (v,H')):bE P f ρ w (execOp a.eval o) v H':=by
 simp only[bU,O,ae5,aed]at b;obtain⟨d,hd,b⟩:=b;split at b
 .rename_i e;simp only[aed]at b;obtain⟨s,hs,z,W,b⟩:=b;split at b;·grind
  simp only[aed,ajB,adG]at b;obtain⟨u,A,ox,h1,oy,h2,rfl⟩:=b;simp only[aE]at he;have Q:=h.gv h1;have R:=h.gv h2;split at he
  .rename_i l c hl B;split at he
   .rename_i ia;simp only[aj6]at ia;obtain⟨⟨C,D⟩,E⟩:=ia;have m:l<=c:=akc C;have T:=vQ D;have V:=vQ E;obtain⟨rfl,rfl⟩:=he;rw[hl]at Q;rw[B]at R;obtain⟨k1,ag,X⟩:=Q.jQ;obtain⟨k2,av,Y⟩:=R.jQ;obtain⟨zv,F,G,J⟩:=uH W;have j:=VR.cells (G ρ) J;have k:=bj.length j;simp only[akG]at k;have g:zv.cells.size=s:=af;have n:=DC (ρ:=ρ) j c af;obtain⟨Z,q2,q3⟩:=zC h.I n e (c*s) (by simp[k,g,BA]) [];obtain⟨ti,K,L⟩:=Gy A;refine bE.val (c:=.slice (some ⟨w.heap.size,0,none⟩) l c) (w':={w with heap:=w.heap.push (.cells (((alP (c*zv.cells.size)).map (zv.cells[·% zv.cells.size]!)).toList++[]).toArray e (0,0))}) ?_ ⟨_,Z,?_,q2,q3⟩
    .have M:IntKind.i64.wrap (ak1 l)=l:=Bz _ (by simp only[aj5];omega) (by simp only[aj5];omega);have N:IntKind.i64.wrap (ak1 c)=c:=Bz _ (by simp only[aj5];omega) (by simp only[aj5];omega);have p:¬((ti.bytes:Int)*(c:Int)>2^48):=by
      have e1:(2:Int)^48=281474976710656:=bA;rw[e1,L];have:((u*c:Nat):Int)<=281474976710656:=by rw[Nat.mul_comm];omega
      push_cast at this;omega
     have q:¬((c:Int)<0):=af;have i:¬((l:Int)<0):=af;have r:¬((l:Int)>(c:Int)):=af;simp only[execOp,O,Instr.makeSlice,Sem.run_bind,b8 hd,Result.andThen_ok,X,Y,asInt,asIntOf,Sem.run_pure,zy K,M,N];simp only[p,q,i,r,decide_false,Bool.or_false,aes,bP];rw[SP];by_cases S:c*s=0;·simp only[run_askRoom,Result.andThen_ok,jB hs,aj3,S,g,newRow,bq,Sem.run_bind,Sem.run_pure,run_newObj];grind
     simp only[run_askRoom,Result.andThen_ok,jB hs,aj3,S,g,newRow,bP,Sem.run_bind,Sem.run_pure,run_newObj,F]
    simp only[VR];exact⟨trivial,m,afb _,λ_=>trivial,_,_,aP.fP ..,λ_=>by rfl,λh=>by grind⟩
   grind
  grind
 grind
theorem SR(h:ef P f ρ H w nt aa a){t d:TypeId}{x:Operand}(R:o.op=.convert t d x)(p:bU P nt o=some ao)(he:aE ao aa H=some (v,H')):bE P f ρ w (execOp a.eval o) v H':=by
 simp only[bU,R,ae5,aed]at p;obtain⟨ts,A,td,B,p⟩:=p;split at p
 .rename_i k0 k;simp only[aed,ajB,adG]at p;obtain⟨W,h1,rfl⟩:=p;have u:=h.gv h1;simp only[aE]at he;split at he;·rename_i j n F;obtain⟨rfl,rfl⟩:=he;rw[F]at u;obtain⟨k',_,E⟩:=u.jQ;exact bE.val (c:=.int k (k.wrap n)) (w':=w) (by simp[execOp,R,convert,b8 A,b8 B,E,Conv.intToInt]) (dp.bX h.I (by simp[VR,xA]))
  cases he
 .simp only[aed,ajB,adG]at p;obtain⟨W,h1,rfl⟩:=p;have u:=h.gv h1;simp only[aE]at he;split at he;·rename_i s F;obtain⟨rfl,rfl⟩:=he;rw[F]at u;obtain⟨t',L,E⟩:=u.nE;exact bE.val (c:=.string t') (w':=w) (by simp[execOp,R,convert,b8 A,b8 B,E]) (dp.bX h.I (by rw[E]at u;exact u))
  cases he
 .rename_i e;simp only[aed]at p;obtain⟨te,G,p⟩:=p;split at p
  .simp only[bq]at p;split at p;case isFalse=>cases p
   rename_i T;simp only[aed,ajB,adG]at p;obtain⟨W,h1,rfl⟩:=p;have u:=h.gv h1;simp only[aE]at he;split at he
   .rename_i s F;obtain⟨rfl,rfl⟩:=he;rw[F]at u;obtain⟨t',L,E⟩:=u.nE;have ag:t'.size=s.length:=by rw[<-L,akg,akG];rfl
    have a4:=grownCap_ge w t'.size 0 e;have C:=Lib.run_convert_string_bytes (P:=P) w t d e t' A B G;have V:(Lib.bytesCells w e t').size=grownCap w t'.size 0 e:=by simp only[Lib.bytesCells,Array.size_append,Array.size_map,Array.size_replicate];have:t'.data.size=t'.size:=rfl;omega
    have D:(Lib.bytesWorld w e t').heap=w.heap.push (.cells (Lib.bytesCells w e t') e ((Lib.bytesCells w e t').size,(Lib.bytesCells w e t').size+1)):=by
     apply Array.ext_getElem?;intro j;rw[ale];by_cases hj:j=w.heap.size;·rw[aK hj,hj,Lib.bytesWorld_at_new]
     rw[aq hj];rcases akW j w.heap.size with y|a2;·exact Lib.bytesWorld_at_old w e t' j y
     rw[akX (by rw[Lib.bytesWorld_size];omega),akX af]
    obtain⟨X,Y,q3⟩:=h.I.alloc (q:=((Lib.bytesCells w e t').size,(fY P e).getD 0)) (hq:=rfl) (o:=.cells (db (s.map λn=>.int 4 (.ofNat n))) s.length e true [] 0) (ob:=.cells (Lib.bytesCells w e t') e ((Lib.bytesCells w e t').size,(Lib.bytesCells w e t').size+1)) aB rfl (by
     simp only[OR];refine⟨trivial,af,λi hi=>?_,λ_ i _ hi=>by omega⟩;have M:i<t'.data.size:=by have:t'.data.size=t'.size:=rfl;omega
     refine⟨.int .u8 (t'.data[i]).toNat,?_,?_⟩;·simp only[Lib.bytesCells,akh];rw[Array.getElem?_append_left (by simpa using M)];simp only[Array.getElem?_map,getElem?_pos t'.data i M,akt]
     rw[pR _ _ (by simpa using hi)];have av:s[i]?=some (t'.data[i]).toNat:=by rw[<-L,aks,alc,getElem?_pos t'.data i M];rfl
     simp only[List.getD,aks,av,akt,akQ,VR];exact⟨rfl,rfl⟩);refine bE.val (c:=.slice (some ⟨w.heap.size,0,none⟩) t'.size (grownCap w t'.size 0 e)) (w':=Lib.bytesWorld w e t') (by simp only[execOp,R,E,Sem.run_bind,C,Result.andThen_ok,Sem.run_pure]) ⟨_,X,?_,Y.zu D,q3.zu D rfl rfl rfl⟩;refine⟨ag,afb _,af,(λp=>by cases p),_,_,aP.fP ..,(λ_=>by simp),λ_=>?_⟩;rw[aP.uD];simp only[T,akQ];omega
   cases he
  simp at p
 .simp only[aed]at p;obtain⟨te,G,p⟩:=p;split at p
  .simp only[bq,aed,ajB,adG]at p;obtain⟨W,h1,rfl⟩:=p;have u:=h.gv h1;simp only[aE]at he;split at he;·rename_i F;obtain⟨rfl,rfl⟩:=he;rw[F]at u;have E:=u.nF;exact bE.val (c:=.string .empty) (w':=w) (by simp[execOp,R,convert,b8 A,b8 B,b8 G,E,Conv.bytesToString]) (dp.bX h.I (by simp[VR]))
   .rename_i id off len cap ex F;split at he
    .rename_i l hl;simp only[aho,aj1]at he;obtain⟨bs,cA,rfl,rfl⟩:=he;rw[F]at u;obtain⟨ad,cp,E,p1,p2,p3,b,z,hb,p4,p5⟩:=u.pj;have K:∀(l:List AV)(m:List Value)(r:List Nat),Bb l=some r->bj ρ l m->m=(r.map ak1).map (Value.int .u8)/\∀n∈r,n<256:=by
      intro l;induction l with
      |nil=>intro m r h1 h2;cases m with|nil=>simp only[Bb,adG]at h1;subst h1;simp|cons _ _=>simp[bj]at h2
      |cons v l S=>
       intro m r h1 h2;cases m with
       |nil=>simp[bj]at h2
       |cons c m=>
        simp only[bj]at h2;simp only[Bb]at h1;split at h1
        .rename_i n r' e1 e2;injection h1 with h1;subst h1;obtain⟨g,g'⟩:=S m r' e2 h2.2;unfold KA at e1;split at e1
         .rename_i n';split at e1
          .rename_i y;injection e1 with e1;subst e1;obtain⟨k',hk,aw⟩:=h2.1.jQ;have:k'=.u8:=xz (by rw[<-hk];rfl);subst this;have a3:n'<256:=ako (Nat.lt_succ_self n') (akc y);refine⟨by simp[g,aw],λq hq=>?_⟩;rcases aeV.1 hq with e|e;·omega
           exact g' q e
          cases e1
         cases e1
        cases h1
     have O:∃m:List Value,(loadCells ad len).run P w=.ok m.toArray w/\bj ρ l m:=by
      rcases Nat.eq_zero_or_pos len with Z|Z
      .subst Z;refine⟨[],by simp[loadCells,loadCellsFrom],?_⟩;unfold fE at hl;split at hl;·simp only[iI,adG]at hl;subst hl;simp[bj]
       cases hl
      have:=p4 af;subst this;unfold fE at hl;split at hl;·rename_i c m' e' a5 aM fz hi;obtain⟨b',x',ob,J,y,ax,N⟩:=h.I.aH (i:=id) (by rw[hi];simp);rw[hb]at J;injection J with J;injection J with e1 e2;subst e1;subst e2;rw[hi]at N;cases ob with|cells cs el fr=>obtain⟨X,Y⟩:=Dv N hl;exact⟨_,Bt w ax (z+off) len (Y Z),X⟩|_=>simp[OR]at N
      cases hl
     obtain⟨m,hm,ay⟩:=O;obtain⟨a0,y⟩:=K l m bs cA ay;subst a0;have C:=run_bytesToString (P:=P) w ad len cp (bs.map ak1) hm;have Q:∀(r:List Nat)(s:ByteArray),((r.map ak1).foldl (λr n=>r.push (UInt8.ofNat n.toNat)) s).data.toList=s.data.toList++r.map UInt8.ofNat:=by intro r;induction r with|nil=>intro s;simp|cons n r S=>intro s;simp only[aj7,List.foldl_cons];rw[S];simp[ByteArray.push]
     refine bE.val (c:=.string _) (w':=w) (by simp[execOp,R,convert,b8 A,b8 B,b8 G,E,C];rfl) (dp.bX h.I ?_);simp only[VR];rw[Q];simp only[akE,alx];have:bs.map (alv∘UInt8.ofNat)=bs:=by
      have a1:∀(r:List Nat),(∀n∈r,n<256)->r.map (alv∘UInt8.ofNat)=r:=by intro r;induction r with|nil=>intro _;rfl|cons n r S=>intro hr;rw[aj7,S (λq hq=>hr q (aey _ hq))];have:=hr n (aeU ..);simp only[Function.comp,UInt8.toNat_ofNat',akn,and_true];omega
      exact a1 bs y
     rw[this];rfl
    cases he
   cases he
  simp at p
 cases p
theorem SS(h:ef P f ρ H w nt aa a){x:Operand}{r t:TypeId}{ok:Bool}(s:o.op=.typeAssert x r t ok)(k:bU P nt o=some ao)(he:aE ao aa H=some (v,H')):bE P f ρ w (execOp a.eval o) v H':=by
 simp only[bU,s,ae5,aed]at k;obtain⟨d,hd,k⟩:=k;have key:(∀m,d≠.interface m)/\∃z l,pP P t=some z/\hZ P nt x=some l/\ao=.typeAssert t z ok l:=by cases d<;>simp only[bq,aes,bP,aed,ajB,adG]at k<;>first|(cases k;done)|(obtain⟨z,h0,l,h1,h2⟩:=k;exact⟨(λm e=>by cases e),z,l,h0,h1,h2.symm⟩)
 obtain⟨i,z,l,F,h1,rfl⟩:=key;obtain⟨zv,n,p,G⟩:=uH F;have A:=h.gv h1;simp only[aE]at he;have q:(Instr.typeAssert .nilIface r t true).run P w=.ok (.tuple #[zv,.bool false]) w:=by simp only[Instr.typeAssert,Sem.run_bind,b8 hd,Result.andThen_ok];cases d<;>first|(exact absurd rfl (i _))|simp[n]
 have j:∀(c:Value)(b:Bool),(Instr.typeAssert (.iface t c) r t b).run P w=.ok (if b then .tuple #[c,.bool true]else c) w:=by intro c b;simp only[Instr.typeAssert,Sem.run_bind,b8 hd,Result.andThen_ok];cases d<;>first|(exact absurd rfl (i _))|simp
 have g:∀(u:TypeId)(c:Value),u≠t->(Instr.typeAssert (.iface u c) r t true).run P w=.ok (.tuple #[zv,.bool false]) w:=by intro u c hu;simp only[Instr.typeAssert,Sem.run_bind,b8 hd,Result.andThen_ok];cases d<;>first|(exact absurd rfl (i _))|simp[hu,n]
 split at he
 .rename_i C;rw[C]at A;have B:=A.Bx;split at he;·rename_i ia;subst ia;obtain⟨rfl,rfl⟩:=he;exact bE.val (c:=.tuple #[zv,.bool false]) (w':=w) (by simp[s,B,q,execOp]) (dp.bX h.I (by simp[p,VR,bj]))
  grind
 .rename_i u J C;rw[C]at A;obtain⟨y,K,B⟩:=A.zw;split at he;·rename_i hu;have D:u=t:=aj4 hu;subst D;obtain⟨rfl,rfl⟩:=he;refine bE.val (c:=if ok then .tuple #[y,.bool true]else y) (w':=w) (by simp[s,B,j,execOp]) (dp.bX h.I ?_);grind[VR,bj]
  rename_i hu;split at he;·rename_i ia;subst ia;obtain⟨rfl,rfl⟩:=he;have E:u≠t:=λe=>hu (by subst e;simp);exact bE.val (c:=.tuple #[zv,.bool false]) (w':=w) (by simp[s,B,g,E,execOp]) (dp.bX h.I (by simp[p,VR,bj]))
  grind
 grind
end
section
variable{P:Program}{b:cU}{ρ:aP}{H H':ai}{w:World}{nt:Nat}{aa:ap AV}{a:Act}{o:Oper}{ao:bW}{v:AV}
structure vR(P:Program)(w:World)(argTypes:Array TypeId)(e:TypeId)(size:Nat)(x:Value)(n:Nat)(m:List Value):Prop where
 run:∀(ty:TypeId)(s:Value)(dc:Option Addr)(sLen sCap:Nat),s=.slice dc sLen sCap->∀sT,argTypes[0]?=some sT->P.underlying sT=some (.slice e)->fY P e=some size->
  (sLen+n<=sCap->∀w',(match dc with|some a=>storeCells (a.add (sLen*size)) m|none=>pure ():Sem Unit).run P w=.ok () w'->
   (Builtin.append_ argTypes ty #[s,x]).run P w=.ok (.slice dc (sLen+n) sCap) w')/\
  (¬sLen+n<=sCap->∀i,P.info? e=some i->(sLen+n)*i.bytes<=70368744177664->sLen+n<=70368744177664->∀z,(∀w,(zeroValue e).run P w=.ok z w)->∀dT:Array Value,(Builtin.firstCells size sLen s).run P w.drew=.ok dT w.drew->
   (Builtin.append_ argTypes ty #[s,x]).run P w=.ok (.slice (some ⟨w.heap.size,0,none⟩) (sLen+n) (grownCap w (sLen+n) sCap e))
     (w.drew.alloc (.cells (dT++m.toArray++Builtin.zeroCells z.cells (grownCap w (sLen+n) sCap e - (sLen+n))) e)))
theorem Lo(n:Nat):∀(r c:Nat),256<=c->c<2*n->Builtin.growBy n r c<=2*n
 |0,c,_,h=>by grind[Builtin.growBy]
 |r+1,c,h1,h2=>by
  simp only[Builtin.growBy];split;·omega
  rcases akW (c+(c+768)/4) (2*n)with h|h;·exact Lo n r _ af h
  omega
theorem SU{a dT:Nat}(h:dT<a):Builtin.nextslicecap a dT<=2*a:=by grind[Builtin.nextslicecap,Lo]
theorem DE{a dT c:Nat}(h:dT<a)(hb:a*c<=70368744177664):¬(Builtin.nextslicecap a dT*c>2^48):=by have h1:=aky c (SU h);grind
theorem vR.SV{argTypes:Array TypeId}{e y:TypeId}{size n:Nat}{x:Value}{m:List Value}{g:TypeDesc}(q:argTypes[1]?=some y)(d:P.underlying y=some g)(h:∀k,g≠.int k)(c:∀r:World,(Builtin.lenOf x).run P r=.ok n r)(h1:(Builtin.firstCells size n x).run P w=.ok m.toArray w)(h2:(Builtin.firstCells size n x).run P w.drew=.ok m.toArray w.drew):vR P w argTypes e size x n m:=by
 refine⟨λC s dc j A hs D t hu f=>⟨λa r eh=>?_,λa i hi u B z p dT gE=>?_⟩⟩
 .subst hs;have p:(match g with|.int _=>true|_=>false)=false:=by cases g<;>first|rfl|(exact absurd rfl (h _))
  cases dc with|none=>simp only[Sem.run_pure,Result.ok.injEq,true_and]at eh;subst eh;simp[Builtin.append_,t,q,b8 hu,jB f,b8 d,p,c,a,h1]|some ad=>simp only at eh;simp[Builtin.append_,t,q,b8 hu,jB f,b8 d,p,c,a,h1,eh]
 subst hs;have v:(match g with|.int _=>true|_=>false)=false:=by cases g<;>first|rfl|(exact absurd rfl (h _))
 have l:=DE (Nat.lt_of_not_le a) u;have o:¬(((j+n:Nat):Int)>IntKind.i64.max):=by have:IntKind.i64.max=9223372036854775807:=bA;rw[this];omega
 simp only[Builtin.append_,t,q,b8 hu,jB f,b8 d,v,c,a,Sem.run_bind,Result.andThen_ok,Sem.run_pure,aes,bP,List.getElem?_toArray,List.getElem?_cons_zero,ak6,zy hi,o,false_and,l,run_choose,Question.forced,run_askRoom];rw[show({heap:=w.heap,tape:=w.tape,drawn:=w.drawn+1,os:=w.os,output:=w.output}:World)=w.drew from rfl,gE];simp only[Result.andThen_ok,Bool.not_false,bq,h2,p,newRow,Sem.run_bind,run_newObj,Sem.run_pure];rfl
theorem vR.SW{argTypes:Array TypeId}{e B:TypeId}{size n g:Nat}{k G:IntKind}{z:Value}(C:argTypes[1]?=some B)(h:P.underlying B=some (.int k))(t:zo P e=some g)(K:n*g<=70368744177664)(I:n<=70368744177664)(H:∀w,(zeroValue e).run P w=.ok z w)(u:z.cells.size=size):vR P w argTypes e size (.int G (n:Int)) n ((alP (n*z.cells.size)).map (z.cells[·% z.cells.size]!)).toList:=by
 obtain⟨D,c,v⟩:=Gy t;have j:IntKind.i64.wrap (n:Int)=n:=Bz _ af af;have l:¬((n:Int)*(D.bytes:Int)>2^48):=by have e1:(2:Int)^48=281474976710656:=bA;rw[e1,v];have:((n*g:Nat):Int)<=281474976710656:=af;push_cast at this;omega
 have d:¬((n:Int)<0):=af;have f:∀r,(if n*size=0 then pure #[]else do pure (Builtin.zeroCells (<-zeroValue e).cells n):Sem (Array Value)).run P r=.ok ((alP (n*z.cells.size)).map (z.cells[·% z.cells.size]!)) r:=by
  intro r;by_cases h0:n*size=0;·rw[aK h0,u,h0];simp
  rw[aq h0];simp[H,Builtin.zeroCells]
 refine⟨λL s dc o F hs M E hu m=>⟨λa r eh=>?_,λa i hi x J N y dT gE=>?_⟩⟩;·subst hs;simp only[Builtin.append_,E,C,b8 hu,jB m,b8 h,a,Sem.run_bind,Result.andThen_ok,Sem.run_pure,bq,List.getElem?_toArray,List.getElem?_cons_zero,ak6,asInt,asIntOf,j,d,bP,zy c,l,aj3,aku,aes,f];cases dc with|none=>simp_all|some ad=>simp_all
 subst hs;have p:=DE (Nat.lt_of_not_le a) x;have q:¬(((o+n:Nat):Int)>IntKind.i64.max):=by have:IntKind.i64.max=9223372036854775807:=bA;rw[this];omega
 have A:i=D:=by rw[hi]at c;injection c
 subst A;simp only[Builtin.append_,E,C,b8 hu,jB m,b8 h,a,Sem.run_bind,Result.andThen_ok,Sem.run_pure,bq,List.getElem?_toArray,List.getElem?_cons_zero,ak6,asInt,asIntOf,j,d,bP,zy c,l,aj3,aku,aes,q,false_and,p,run_choose,Question.forced,run_askRoom];rw[show({heap:=w.heap,tape:=w.tape,drawn:=w.drawn+1,os:=w.os,output:=w.output}:World)=w.drew from rfl,gE];simp only[Result.andThen_ok,f,y,newRow,Sem.run_bind,run_newObj,Sem.run_pure];rfl
end
section
variable{P:Program}{d:cU}{ρ:aP}{H H':ai}{w:World}{nt:Nat}{aa:ap AV}{a:Act}{o:Oper}{ao:bW}{v:AV}
theorem GD(a:Array Value)(n:Nat):(Builtin.zeroCells a n).size=n*a.size:=by simp[Builtin.zeroCells]
theorem Lq(o:bz P d ρ H w){id:ab}{off len i m:Nat}{ad:Addr}{b x:Nat}(hb:ρ id=some (b,x))(h:i≠0->ad=⟨b,x+off,none⟩)(k:len<=i){size:Nat}(v:m=len*size){l:List AV}(hl:fE H id off m=some l):∃j:List Value,bj ρ l j/\l.length=m/\∀f:World,f.heap=w.heap->(loadCells ad m).run P f=.ok j.toArray f:=by
 unfold fE at hl;split at hl
 .rename_i c n e q aM fz hi;obtain⟨r,_,_⟩:=Du m c n off l hl;rcases Nat.eq_zero_or_pos m with h0|h0;·subst h0;simp only[iI,adG]at hl;subst hl;exact⟨[],by trivial,rfl,λf _=>by rfl⟩
  have s:len≠0:=by intro e;subst e;omega
  have:=h af;subst this;obtain⟨y,z,p,g,t,u,a⟩:=o.aH (i:=id) (by grind);rw[hb]at g;injection g with g;injection g with e1 e2;subst e1;subst e2;rw[hi]at a;cases p with|cells cs A fr=>obtain⟨B,C⟩:=Dv a hl;grind[Bt]|_=>trivial
 grind
theorem GF(k:bz P d ρ H w){x:AV}{c:Value}(i:VR ρ x c){size n:Nat}{l:List AV}(h:je H size x=some (n,l)):∃g:List Value,bj ρ l g/\l.length=n*size/\(∀a:World,(Builtin.lenOf c).run P a=.ok n a)/\∀a:World,a.heap=w.heap->(Builtin.firstCells size n c).run P a=.ok g.toArray a:=by
 unfold je at h;split at h;·obtain⟨rfl,rfl⟩:=h;have:=i.nF;subst this;exact⟨[],by trivial,aB,λa=>by rfl,λa _=>by rfl⟩
 .split at h;·rename_i v hl;obtain⟨rfl,rfl⟩:=h;obtain⟨ad,y,rfl,A,B,C,b,z,hb,m,D⟩:=i.pj;obtain⟨g,o,p,q⟩:=Lq (P:=P) k hb m af rfl hl;exact⟨g,o,p,λa=>by rfl,λa r=>by simp[q,r,Builtin.firstCells]⟩
  grind
 .rename_i s;split at h
  .rename_i e;have e:=aj4 e;subst e;obtain⟨rfl,rfl⟩:=h;obtain⟨t,j,rfl⟩:=i.nE;have f:t.size=s.length:=by rw[<-j,akg,akG];rfl
   refine⟨t.data.toList.map λb=>.int .u8 b.toNat,?_,aB,λa=>by simp[f,Builtin.lenOf],λa _=>?_⟩;·rw[<-j];generalize t.data.toList=l;induction l with|nil=>trivial|cons u l E=>trivial
   simp only[Builtin.firstCells,Sem.run_pure,Result.ok.injEq,and_true];rw[<-f];have:t.extract 0 t.size=t:=by apply ByteArray.ext;rw[ByteArray.data_extract];exact Array.extract_size
   grind
  grind
 grind
theorem GG(w:World)(A:Array Value)(L:List Value)(e:TypeId)(h:A.toList=L):w.alloc (.cells A e)={w with heap:=w.heap.push (.cells L.toArray e (0,0))}:=by subst h;rfl
theorem SX(C:bz P d ρ H w){s:AV}{sv:Value}(hs:VR ρ s sv){argTypes:Array TypeId}{ty sT e size T n:Nat}{l:List AV}{m:List Value}{x:Value}(R:vR P w argTypes e size x n m)(hl:bj ρ l m)(u:l.length=n*size)(hT:argTypes[0]?=some sT)(hu:P.underlying sT=some (.slice e))(r:fY P e=some size)(a4:zo P e=some T){z:Value}(hz:∀w,(zeroValue e).run P w=.ok z w)(ag:z.cells.size=size)(he:kI e T size H s n l=some (v,H')):∃c w',(Builtin.append_ argTypes ty #[sv,x]).run P w=.ok c w'/\dp P d ρ w v H' c w':=by
 obtain⟨ti,av,aw⟩:=Gy a4;have a5:=bj.length hl;unfold kI at he;split at he;·cases he
 rename_i J;have J:dS l=true:=by simpa using J
 have t:eC d w w.drew:=(eC.refl d w).drew;split at he
 .have:=hs.nF;subst this;have g:=R.run ty (.slice none 0 0) none 0 0 rfl sT hT hu r;split at he;·rename_i q;have q:=aj4 q;subst q;obtain⟨rfl,rfl⟩:=he;exact⟨_,w,g.1 af w aB,dp.bX C (by simp[VR])⟩
  rename_i q;have q:n≠0:=λe=>q (by subst e;rfl);split at he
  .rename_i p;simp only[aj6]at p;obtain⟨rfl,rfl⟩:=he;have a6:=grownCap_ge w (0+n) 0 e;have h2:=g.2 af ti av (by rw[akh,aw];exact vQ p.1) (by rw[akh];exact vQ p.2) z hz #[] (by simp[Builtin.firstCells]);obtain⟨q1,q2,q3⟩:=zC (P:=P) (w:=w.drew) C.drew hl e (n*size) u.symm (Builtin.zeroCells z.cells (grownCap w (0+n) 0 e - (0+n))).toList;refine⟨_,_,h2,_,q1,?_,?_,?_⟩;·refine⟨af,afb _,af,(λh=>by cases h),_,_,aP.fP ..,λ_=>rfl,λ_=>?_⟩;rw[aP.uD];simp only[r,akQ,aj8,akG,GD,ag,<-a5,u];rw[Nat.sub_mul];have:=aky size a6;simp only[akh]at this⊢;omega
   .rw[GG _ _ (m++(Builtin.zeroCells z.cells (grownCap w (0+n) 0 e - (0+n))).toList) _ aB];exact q2
   rw[GG _ _ (m++(Builtin.zeroCells z.cells (grownCap w (0+n) 0 e - (0+n))).toList) _ aB];exact t.trans q3
  cases he
 .rename_i id off len cap ex;obtain⟨ad,D,rfl,q1,q2,q3,b,F,hb,q4,q5⟩:=hs.pj;have g:=R.run ty (.slice (some ad) len D) (some ad) len D rfl sT hT hu r;simp only at he;split at he
  .rename_i a;have a:=akc a;split at he
   .rename_i q;have q:=aj4 q;subst q;obtain⟨rfl,rfl⟩:=he;have a8:m=[]:=by rw[Nat.zero_mul]at u;exact List.length_eq_zero_iff.1 af
    subst a8;refine⟨_,w,g.1 af w (by simp[storeCells]),dp.bX C ?_⟩;simp only[VR];exact⟨trivial,a,q2,q3,b,F,hb,q4,q5⟩
   rename_i q;have q:n≠0:=λe=>q (by subst e;rfl);split at he
   .rename_i H2 hw;obtain⟨rfl,rfl⟩:=he;have:=q4 af;subst this;obtain⟨k1,k2,k3⟩:=Bv C hw hb hl;refine⟨_,_,g.1 af _ ?_,ρ,cL.refl ρ,?_,k2,k3⟩;·simp only[uE];rw[show F+off+len*size=F+(off+len*size)by omega];exact k1
    simp only[VR];exact⟨trivial,a,q2,q3,b,F,hb,q4,q5⟩
   cases he
  rename_i a;have a:¬len+n<=cap:=λh=>a (akB h);split at he;·cases he
  rename_i p;have p:fw ((len+n)*T)=true/\fw (len+n)=true:=by simpa using p
  split at he
  .rename_i c mm e2 bd aM fz hi;split at he;·cases he
   rename_i dT gE;have a9:fE H id off (len*size)=some dT:=by unfold fE;rw[hi];exact gE
   obtain⟨E,g1,g2,g3⟩:=Lq (P:=P) C hb q4 af rfl a9;have a':(Builtin.firstCells size len (.slice (some ad) len D)).run P w.drew=.ok E.toArray w.drew:=by simp only[Builtin.firstCells];exact g3 _ rfl
   have eZ:bj ρ (dT++l) (E++m):=bj.append g1 hl;have o:(len+n)*size=(dT++l).length:=by rw[aj8,g2,u,alB]
   have K:=bj.length eZ;have L:¬len+n<=D->∃f:List Value,f.length=(grownCap w (len+n) D e - (len+n))*size/\len+n<=grownCap w (len+n) D e/\(Builtin.append_ argTypes ty #[.slice (some ad) len D,x]).run P w=.ok (.slice (some ⟨w.heap.size,0,none⟩) (len+n) (grownCap w (len+n) D e)) {w.drew with heap:=w.heap.push (.cells (E++m++f).toArray e (0,0))}:=by intro q;refine⟨(Builtin.zeroCells z.cells (grownCap w (len+n) D e - (len+n))).toList,by rw[akG,GD,ag],grownCap_ge ..,?_⟩;have h2:=g.2 q ti av (by rw[aw];exact vQ p.1) (vQ p.2) z hz E.toArray a';rw[h2,GG _ _ (E++m++(Builtin.zeroCells z.cells (grownCap w (len+n) D e - (len+n))).toList) _ aB];rfl
   split at he;·rename_i G;obtain⟨rfl,rfl⟩:=he;have bv:=q3 G;obtain⟨f,r1,r2,r3⟩:=L af;obtain⟨p1,p2,p3⟩:=zC (P:=P) (w:=w.drew) C.drew eZ e ((len+n)*size) o f;refine⟨_,_,r3,_,p1,?_,p2.zu rfl,(t.trans p3).zu rfl rfl rfl rfl⟩;simp only[VR];refine⟨trivial,afb _,r2,(λh=>by cases h),_,_,aP.fP ..,λ_=>rfl,λ_=>?_⟩;rw[aP.uD];simp only[r,akQ,aj8 (as:=E++m),r1,<-K,<-o];rw[Nat.sub_mul];have:=aky size r2;omega
   rename_i G;have G:ex=false:=by simpa using G
   subst G;split at he;case isFalse=>cases he
   rename_i M;simp only[aj6]at M;obtain⟨⟨⟨⟨ba,V⟩,S⟩,W⟩,ax⟩:=M;subst ba;have V:=aj4 V;have S:=aj4 S;have W:=(aj4 W).symm;have ax:=akc ax;subst V;subst W;obtain⟨rfl,rfl⟩:=he;have ay:H.get id≠.none:=by rw[hi];simp
   obtain⟨b',x',ob,Z,b0,O,Q⟩:=C.aH ay;rw[hb]at Z;injection Z with Z;injection Z with e1 b3;subst e1;have i:=C.ka id b F ob ay hb O;rw[hi]at Q i;cases ob with
   |cells cs el fr=>
    simp only[OR]at Q;simp only[gS,r,akQ]at i;obtain⟨o1,o2,o3,o4⟩:=Q;have N:=q5 rfl;rw[i]at N;simp only at N;by_cases A:len+n<=D
    .have a2:D≠0:=af;have:=q4 a2;subst this;have a3:=aky size A;rw[alB]at a3;have eh:=KX (P:=P) w O (F+off+len*size) m af (λj bb X=>o4 trivial j af af) (bj.Gx hl J);obtain⟨f1,f2,f3,f4⟩:=Gw b el fr m w cs (F+off+len*size) O;have Y:=Du (len*size) c mm off dT gE;obtain⟨p1,p2,p3⟩:=C.KY (w':=w.setCells b (F+off+len*size) m) hi hb (c2:=db (dT++l)) (n2:=(len+n)*size) (e2:=e) (fz2:=fz - off) (b2:=b) (x2:=F+off) (ob2:=.cells (wr cs (F+off+len*size) m) el fr) (ρ.k b) (by simp only[gS,uF,r,akQ];exact i) (λ_=>rfl) (by
      refine⟨o1,by rw[uF,alB];omega,λj hj=>?_,λ_ j bb X=>o4 trivial j af (by rw[uF]at X;exact X)⟩;have B:cL ρ (ρ.add H.next b (F+off) (ρ.k b)):=aP.sR _ _ _ (C.eo _ (afb _)).2 (λ_ _ _ _ hc=>by rw[<-hc]);rw[pR _ _ af,Bu _ _ _ _ af];by_cases bc:j<len*size;·rw[aq af];obtain⟨y,hy,I⟩:=o3 (off+j) af;refine⟨y,by rw[<-hy];congr 1;omega,VR.mono B _ _ ?_⟩;simp only[List.getD];rw[akw af,Y.2.2 j bc];exact I
      rw[aK (by rw[alB]at hj;omega)];have a0:j - len*size<l.length:=by rw[alB]at hj;omega
      obtain⟨y,hy,I⟩:=bj.get hl (j - len*size) l[j - len*size] (by simp[a0]);refine⟨y,by rw[<-hy];congr 1;omega,VR.mono B _ _ ?_⟩;simp only[List.getD];rw[List.getElem?_append_right af,g2,akP a0];exact I) f2 f3 f4 (.inr ⟨rfl,f1,by rw[alB];omega,cs,_,el,fr,O,rfl,uF ..,λj hj=>by rw[Bu _ _ _ _ af,aq af]⟩);refine⟨_,_,g.1 A _ (by simp only[uE];exact eh),_,p1,?_,p2,p3⟩;simp only[VR];refine⟨trivial,afb _,A,(λh=>by cases h),_,_,aP.fP ..,λ_=>by simp,λ_=>?_⟩;rw[aP.uD,i];simp only;omega
    obtain⟨f,r1,r2,r3⟩:=L A;obtain⟨p1,p2,p3⟩:=C.drew.KY (w':={w.drew with heap:=w.heap.push (.cells (E++m++f).toArray e (0,0))}) hi hb (c2:=db (dT++l)) (n2:=(len+n)*size) (e2:=e) (fz2:=fz - off) (b2:=w.heap.size) (x2:=0) (ob2:=.cells (E++m++f).toArray e (0,0)) ((E++m++f).length,size) (by simp only[gS,r,akQ,List.size_toArray]) (λh=>by omega) (by
     simp only[OR];refine⟨trivial,by rw[List.size_toArray,aj8 (as:=E++m),<-K];omega,λj hj=>?_,λ_ j _ _=>by omega⟩;have B:cL ρ (ρ.add H.next w.heap.size 0 ((E++m++f).length,size)):=aP.sR _ _ _ (C.eo _ (afb _)).2 (λj' c' y' Z hc=>by have:=C.fH j' c' y' Z;omega);rw[pR _ _ af];have a1:j<(dT++l).length:=af;obtain⟨y,hy,I⟩:=bj.get eZ j (dT++l)[j] (by simp only[akP a1]);refine⟨y,?_,VR.mono B _ _ ?_⟩;·rw[akh,List.getElem?_toArray,akw af];exact hy
     simp only[List.getD];rw[akP a1];exact I) rfl rfl rfl (.inl ⟨rfl,rfl⟩);refine⟨_,_,r3,_,p1,?_,p2,t.trans p3⟩;simp only[VR];refine⟨trivial,afb _,r2,(λh=>by cases h),_,_,aP.fP ..,λ_=>rfl,λ_=>?_⟩;rw[aP.uD];simp only[aj8 (as:=E++m),r1,<-K,<-o];rw[Nat.sub_mul];have:=aky size r2;omega
   |_=>simp[OR]at Q
  cases he
 cases he
end
section
variable{P:Program}{f:cU}{ρ:aP}{H H':ai}{w:World}{nt:Nat}{aa:ap AV}{a:Act}{o:Oper}{ao:bW}{v:AV}
theorem SY(h:ef P f ρ H w nt aa a){c:Call}(W:o.op=.call c)(hb:c.callee=.builtin .append)(g:bU P nt o=some ao)(he:aE ao aa H=some (v,H')):bE P f ρ w (execOp a.eval o) v H':=by
 simp only[bU,W,hb,ae5,aed]at g;obtain⟨t,Z,d,hd,g⟩:=g;obtain⟨G,N⟩:=vP (P:=P) (a:=a) W hb w;split at g
 .rename_i e;simp only[aed]at g;obtain⟨size,O,z,hz,g⟩:=g;split at g;·grind
  rename_i j;have b:z.cells.length=size/\size≠0/\c.args.size=2:=by simpa[not_or]using j
  have j:z.cells.length=size/\size≠0:=⟨b.1,b.2.1⟩;have Q:=b.2.2;simp only[aed,ajB,adG]at g;obtain⟨xT,q,d2,r,R,s,os,⟨X,S,B⟩,ox,⟨J,T,C⟩,rfl⟩:=g;obtain⟨zv,u,x,y⟩:=uH hz;have A:zv.cells.size=size:=by have:=bj.length (VR.cells (x ρ) y);simp at this;omega
  have gs:=h.gv B;have K:=h.gv C;have p:c.args.map a.eval= #[a.eval X,a.eval J]:=by apply Array.ext_getElem?;intro i;match i with|0=>simp[S]|1=>simp[T]|i+2=>rw[akX (by simp[Q]),akX aB]
  have D:(execOp a.eval o).run P w=((Builtin.append_ c.argTypes o.type #[a.eval X,a.eval J]).run P w).andThen λv w=>.ok (.value v) w:=by rw[N];simp only[builtin,p,Sem.run_bind,Sem.run_pure]
  have aA:∀{n:Nat}{l:List AV}{m:List Value},vR P w c.argTypes e size (a.eval J) n m->bj ρ l m->l.length=n*size->kI e R size H (gv aa os) n l=some (v,H')->bE P f ρ w (execOp a.eval o) v H':=by intro n l m E hl F he;obtain⟨c',w',L,M⟩:=SX (ty:=o.type) h.I gs E hl F Z hd O s u A he;exact bE.val (by rw[D,L];rfl) M
  simp only[aE]at he;split at he
  .simp only[bq]at he;split at he
   .rename_i n hv;split at he;·rename_i hs;simp only[aj6]at hs;rw[hv]at K;obtain⟨k',ag,hx⟩:=K.jQ;rw[hx]at aA;refine aA (vR.SW q r s (vQ hs.1) (vQ hs.2) u A) (DC (VR.cells (x ρ) y) n af) (by simp[j,BA]) he
    grind
   grind
  rename_i hm;simp only[aes,bP]at he;split at he;·rename_i n l V;obtain⟨ms,L,M,k3,Y⟩:=GF (P:=P) h.I K V;exact aA (vR.SV q r (λk e=>hm k e) k3 (Y _ rfl) (Y _ rfl)) L M he
  grind
 grind
theorem SZ(h:ef P f ρ H w nt aa a){c:Call}(ho:o.op=.call c)(hb:c.callee=.builtin .copy)(G:bU P nt o=some ao)(he:aE ao aa H=some (v,H')):bE P f ρ w (execOp a.eval o) v H':=by
 simp only[bU,ho,hb,ae5,aed]at G;obtain⟨t,Y,d,hd,G⟩:=G;obtain⟨X,y⟩:=vP (P:=P) (a:=a) ho hb w;split at G
 .rename_i e;simp only[aed,ajB,adG]at G;obtain⟨size,A,od,⟨yd,ag,N⟩,os,⟨K,av,O⟩,rfl⟩:=G;have R:=h.gv N;have k:=h.gv O;have B:(c.args.map a.eval)[0]?=some (a.eval yd):=by simp[ag]
  have C:(c.args.map a.eval)[1]?=some (a.eval K):=by simp[av]
  simp only[aE]at he;split at he
  .rename_i p Z m;obtain⟨n,l⟩:=p;simp only[adG,aj1]at he;obtain⟨rfl,rfl⟩:=he;rw[Z]at R;have S:=R.nF;obtain⟨J,k1,k2,T,V⟩:=GF (P:=P) h.I k m;have aw:(Builtin.firstCells size 0 (a.eval K)).run P w=.ok #[] w:=by have:=V w rfl;revert this;cases a.eval K with|slice b l c=>cases b<;>simp[Builtin.firstCells,loadCells,loadCellsFrom]|string s=>intro _;simp[Builtin.firstCells]|_=>simp[Builtin.firstCells]
   refine bE.val (c:=goInt 0) (w':=w) ?_ (dp.bX h.I (VR.goInt ρ 0));rw[y];simp[builtin,Builtin.copy_,Y,b8 hd,B,C,S,T,jB A,aw]
  .rename_i id off len cap ex n l Z m;rw[Z]at R;obtain⟨ad,cp,S,q1,q2,q3,b,z,ax,q4,q5⟩:=R.pj;obtain⟨J,k1,k2,T,V⟩:=GF (P:=P) h.I k m;have i:(Builtin.firstCells size (min n len) (a.eval K)).run P w=.ok (J.take (min n len*size)).toArray w:=by
    have:=V w rfl;have a8:=bj.length k1;revert this;cases q:a.eval K with
    |slice bb ll cc=>
     cases bb with
     |none=>
      simp only[Builtin.firstCells,Sem.run_pure,Result.ok.injEq,and_true];intro h;have:J=[]:=by simpa using h.symm
      subst this;simp
     |some a9=>
      intro _;rw[q]at k;have g:=m;unfold je at g;split at g;·rename_i x;rw[x]at k;have:=k.nF;cases this
      .rename_i ay r a4 a5 a' x;rw[x]at k;obtain⟨ba,bc,e3,r1,r2,r3,b4,z3,a0,r4,r5⟩:=k.pj;simp only[Value.slice.injEq,adG]at e3;obtain⟨rfl,rfl,rfl⟩:=e3;split at g
       .rename_i l' u;simp only[adG,aj1]at g;obtain⟨rfl,rfl⟩:=g;simp only[Builtin.firstCells];unfold fE at u;split at u
        .rename_i c3 n3 e4 bd a6 bv L;have j:=V w rfl;rw[q]at j;simp only[Builtin.firstCells]at j;rcases Nat.eq_zero_or_pos (min n3 0+min ll len*size)with h0|h0;·have:min ll len*size=0:=af;rw[this];simp[loadCells,loadCellsFrom]
         have a1:min ll len*size≠0:=af;have b0:ll≠0:=by intro e;subst e;simp at a1
         have:=r4 af;subst this;obtain⟨b',x',ob,W,b3,M,D⟩:=h.I.aH (i:=ay) (by rw[L];simp);rw[a0]at W;injection W with W;injection W with e1 e2;subst e1;subst e2;rw[L]at D;cases ob with
         |cells cs el fr=>
          obtain⟨w1,w2⟩:=Dv D u;have Q:min ll len*size<=ll*size:=aky size (Nat.min_le_left _ _);have a2:=w2 af;have e5:=Bt (P:=P) w M (z3+r) (ll*size) a2;rw[j]at e5;simp only[Result.ok.injEq,and_true]at e5;have e6:J=List.take (ll*size) (List.drop (z3+r) cs.toList):=by simpa using e5
          rw[Bt (P:=P) w M (z3+r) (min ll len*size) af,e6,List.take_take,aly Q]
         |_=>simp[OR]at D
        cases u
       cases g
      .rename_i x;rw[x]at k;obtain⟨t,_,e⟩:=k.nE;cases e
      cases g
    |string s=>
     simp only[Builtin.firstCells,Sem.run_pure,Result.ok.injEq,and_true];intro x;rw[q]at k;have g:=m;unfold je at g;split at g;·rename_i E;rw[E]at k;have:=k.nF;cases this
     .rename_i E;rw[E]at k;obtain⟨_,_,e,_⟩:=k.pj;cases e
     .split at g
      .rename_i F;have F:=aj4 F;subst F;have e6:J=((s.extract 0 n).data.map λb=>Value.int .u8 b.toNat).toList:=by rw[x]
       rw[e6,alt];apply Array.toList_inj.1;simp only[Array.toList_map,ByteArray.data_extract,Array.toList_extract,List.extract_eq_drop_take,List.drop_zero,alJ];rw[<-List.map_take,List.take_take];congr 2;omega
      cases g
     cases g
    |_=>simp[Builtin.firstCells]
   split at he;·rename_i hm;simp only[adG,aj1]at he;obtain⟨rfl,rfl⟩:=he;rw[hm]at i;refine bE.val (c:=goInt 0) (w':=w) ?_ (dp.bX h.I (VR.goInt ρ 0));have a3:Nat.min n len=0:=hm;rw[y];simp[builtin,Builtin.copy_,Y,b8 hd,B,C,S,T,jB A,a3,i,storeCells]
   rename_i hm;split at he;·rename_i H2 hw;simp only[adG,aj1]at he;obtain⟨rfl,rfl⟩:=he;have:=q4 af;subst this;obtain⟨p1,p2,p3⟩:=Bv h.I hw ax (bj.take (min n len*size) k1);refine bE.val (c:=goInt ((min n len:Nat):Int)) (w':=w.setCells b (z+off) (J.take (min n len*size))) ?_ ⟨ρ,cL.refl ρ,VR.goInt ρ _,p2,p3⟩;rw[y];simp only[builtin,Builtin.copy_,Y,B,C,Sem.run_bind,b8 hd,Result.andThen_ok,S,T,jB A];rw[show Nat.min n len=min n len from rfl,i];simp[p1]
   cases he
  cases he
 grind
theorem S5(h:ef P f ρ H w nt aa a){c:Call}(K:o.op=.call c)(hb:c.callee=.builtin .clear){L:List AV}{x:aJ}(S:ao=.zd L x)(k:bU P nt o=some ao)(he:aE ao aa H=some (v,H')):bE P f ρ w (execOp a.eval o) v H':=by
 simp only[bU,K,hb,ae5,aed]at k;obtain⟨t,B,d,hd,k⟩:=k;obtain⟨D,e⟩:=vP (P:=P) (a:=a) K hb w;split at k
 .simp only[aed,ajB,adG]at k;obtain⟨z,M,od,⟨N,G,u⟩,rfl⟩:=k;obtain⟨zv,m,p,q⟩:=uH M;have C:=h.gv u;have g:(c.args.map a.eval)[0]?=some (a.eval N):=by simp[G]
  simp only[aE]at he;split at he;·rename_i E;obtain⟨rfl,rfl⟩:=he;rw[E]at C;have l:=C.nF;refine bE.val (c:=.tuple #[]) (w':=w) ?_ (dp.bX h.I (VR.alR ρ));rw[e];simp[builtin,Builtin.clear_,B,g,b8 hd,l]
  .rename_i id off n cap ex E;rw[E]at C;obtain⟨ad,T,l,V,W,X,b,y,r,O,Y⟩:=C.pj;split at he;·rename_i Q;obtain⟨rfl,rfl⟩:=he;subst Q;refine bE.val (c:=.tuple #[]) (w':=w) ?_ (dp.bX h.I (VR.alR ρ));rw[e];simp[builtin,Builtin.clear_,B,g,b8 hd,l]
   split at he
   .rename_i Z F;obtain⟨rfl,rfl⟩:=he;have:=O af;subst this;by_cases s:z.cells.length=0
    .have A:z.cells=[]:=List.length_eq_zero_iff.1 s;have j:∀n,fO z.cells n=[]:=by intro n;rw[A];induction n with|zero=>rfl|succ n R=>simp[fO,R]
     rw[j]at F;have J:zv.cells.size=0:=by have:=bj.length (VR.cells (p ρ) q);simp at this;omega
     obtain⟨p1,p2,p3⟩:=Bv h.I F r (m:=[]) (by trivial);refine bE.val (c:=.tuple #[]) (w':=w.setCells b (y+off) []) ?_ ⟨ρ,cL.refl ρ,VR.alR ρ,p2,p3⟩;rw[e];have i:(Builtin.zeroCells zv.cells n).toList=[]:=by apply List.length_eq_zero_iff.1;rw[akG,GD,J];omega
     simp[builtin,Builtin.clear_,B,g,b8 hd,l,m,i,p1]
    obtain⟨p1,p2,p3⟩:=Bv h.I F r (DC (VR.cells (p ρ) q) n s);refine bE.val (c:=.tuple #[]) (w':=w.setCells b (y+off) ((alP (n*zv.cells.size)).map (zv.cells[·% zv.cells.size]!)).toList) ?_ ⟨ρ,cL.refl ρ,VR.alR ρ,p2,p3⟩;rw[e];have i:(Builtin.zeroCells zv.cells n).toList=((alP (n*zv.cells.size)).map (zv.cells[·% zv.cells.size]!)).toList:=rfl;simp only[builtin,Builtin.clear_,B,g,Sem.run_bind,b8 hd,Result.andThen_ok,l,m,i,p1,Sem.run_pure]
   grind
  grind
 all_goals simp_all[aed,ajB,adG]
end
section
variable{P:Program}{c:cU}{ρ:aP}{H H':ai}{w:World}{nt:Nat}{aa:ap AV}{a:Act}{o:Oper}{ao:bW}{v:AV}
def GH(P:Program)(ρ:aP)(f:Nat):Prop:=∀{const:Bool}{t:TypeId}{d:eE},jP P f const t=some d->∀{g:Nat}{x y:AV}{r:Bool},eA g d x y=some r->
 ∀{a b:Value},VR ρ x a->VR ρ y b->∀(n:Nat)(w:World),f<=n->(Op.equalIn n t a b).run P w=.ok r w
theorem Lr{f:Nat}(h:GH P ρ f){o q:List AV}{t u:Array Value}(v:bj ρ o t.toList)(z:bj ρ q u.toList)(n:Nat)(w:World)(i:f<=n):∀(fs:List Field)(l:List (Nat×Nat×Bool×eE))(g:Nat)(r:Bool),(fs.mapM λ(g:Field)=>if g.name= "_" then none else match jP P f false g.type,fY P g.type,pi P g.type with|some d,some s,some a=>some (g.offset,s,a,d)|_,_,_=>none)=some l->eA.go g o q l=some r->(Op.eqFields n t u fs).run P w=.ok r w
 |[],l,g,r,h1,h2=>by simp only[List.mapM_nil,ajB,adG]at h1;subst h1;unfold eA.go at h2;simp only[adG]at h2;subst h2;simp[Op.eqFields]
 |G::fs,l,g,r,h1,h2=>by
  simp only[alw,ae5,aed,ajB,adG]at h1;obtain⟨p,b,D,j,rfl⟩:=h1;split at b;·cases b
  rename_i e;split at b
  .rename_i d s a hd hs A;injection b with b;subst b;cases g with
   |zero=>simp[eA.go]at h2
   |succ g=>
    simp only[eA.go]at h2;split at h2
    .rename_i x y k m;obtain⟨H,E,B⟩:=vO (P:=P) (w:=w) v A hs k;obtain⟨I,F,C⟩:=vO (P:=P) (w:=w) z A hs m;simp only[Op.eqFields,e,ne_eq,not_false_eq_true,bq,Sem.run_bind,E,F,Result.andThen_ok];split at h2;·rename_i he;rw[h hd he B C n w i];exact Lr h v z n w i fs D g r j h2
     .rename_i he;injection h2 with h2;subst h2;rw[h hd he B C n w i];simp
     cases h2
    cases h2
  cases b
theorem Ls{f:Nat}(b:GH P ρ f){m o:List AV}{p q:Array Value}(t:bj ρ m p.toList)(u:bj ρ o q.toList)(n:Nat)(w:World)(h:f<=n){e:TypeId}{s:Nat}{a:Bool}{d:eE}(hd:jP P f false e=some d)(hs:fY P e=some s)(j:pi P e=some a):∀(is:List Nat)(g:Nat)(r:Bool),eA.go g m o (is.map λi=>(i*s,s,a,d))=some r->(Op.eqItems n e s p q is).run P w=.ok r w
 |[],g,r,h2=>by simp only[ali]at h2;unfold eA.go at h2;simp only[adG]at h2;subst h2;simp[Op.eqItems]
 |i::is,g,r,h2=>by
  cases g with
  |zero=>simp[eA.go]at h2
  |succ g=>
   simp only[aj7,eA.go]at h2;split at h2
   .rename_i x y k l;obtain⟨C,A,v⟩:=vO (P:=P) (w:=w) t j hs k;obtain⟨D,B,z⟩:=vO (P:=P) (w:=w) u j hs l;simp only[Op.eqItems,Sem.run_bind,A,B,Result.andThen_ok];split at h2;·rename_i he;rw[b hd he v z n w h];exact Ls b t u n w h hd hs j is g r h2
    .rename_i he;injection h2 with h2;subst h2;rw[b hd he v z n w h];simp
    cases h2
   cases h2
set_option maxHeartbeats 1000000 in theorem DF(ρ:aP)(f:Nat):GH P ρ f:=by
 induction f with
 |zero=>intro const t d h;simp[jP]at h
 |succ f M=>
  intro const t d h g x y r he T V k m n w W;cases n with
  |zero=>omega
  |succ n=>
   have E:f<=n:=af;unfold jP at h;split at h;all_goals(rename_i hu)
   .injection h with h;subst h;unfold eA at he;split at he<;>(try(rename_i u;cases u;done))<;>(try(cases he;done));injection he with he;rw[k.rO,m.rO,<-he];exact run_equalIn_bool' w n t _ _ hu
   .injection h with h;subst h;unfold eA at he;split at he<;>(try(rename_i u;cases u;done))<;>(try(cases he;done));split at he;·rename_i O;injection he with he;obtain⟨X,h1,rfl⟩:=k.jQ;obtain⟨Y,h2,rfl⟩:=m.jQ;have:=xz (h1.symm.trans (O.trans h2));subst this;rw[<-he,fQ];exact run_equalIn_int w n t _ _ _ _ hu
    cases he
   .injection h with h;subst h;unfold eA at he;split at he<;>(try(rename_i u;cases u;done))<;>(try(cases he;done));injection he with he;obtain⟨t1,h1,rfl⟩:=k.nE;obtain⟨N,h2,rfl⟩:=m.nE;subst h1;subst h2;rw[<-he,<-Lg];exact run_equalIn_string w n t _ _ hu
   .split at h
    .rename_i Z J;injection h with h;subst h;unfold eA at he;split at he<;>(try(rename_i u;cases u;done))<;>(try(cases he;done));·injection he with he;subst he;rw[k.Dx,m.Dx];simp[Op.equalIn,b8 hu]
     .injection he with he;subst he;obtain⟨b,z,h1,h2⟩:=m.oO;rw[k.Dx,h2];simp[Op.equalIn,b8 hu]
     .injection he with he;subst he;obtain⟨b,z,h1,h2⟩:=k.oO;rw[m.Dx,h2];simp[Op.equalIn,b8 hu]
     rename_i _ i _ j _;split at he
     .rename_i hb;have hb:=ab.ip.1 hb;subst hb;injection he with he;obtain⟨b,z,h1,rfl⟩:=k.oO;obtain⟨b',z',v,rfl⟩:=m.oO;rw[h1]at v;injection v with v;injection v with e1 e2;subst e1;subst e2;simp only[Op.equalIn,Sem.run_bind,b8 hu,Result.andThen_ok,jB J];rw[<-he];have:((⟨b,z+i,none⟩:Addr)==⟨b,z+j,none⟩)=akb i j:=by
       rw[alE,beq_iff_eq,Addr.mk.injEq];constructor;·intro h;have:i=j:=af;subst this;exact ald _
       intro h;have:=aj4 h;subst this;simp
      simp[sameAddr,this]
     cases he
    cases h
   .injection h with h;subst h;unfold eA at he;split at he<;>(try(rename_i u;cases u;done))<;>(try(cases he;done));all_goals injection he with he;subst he
    .rw[k.nF,m.nF];simp[Op.equalIn,b8 hu]
    .obtain⟨ad,Q,h1,_⟩:=m.pj;rw[k.nF,h1];simp[Op.equalIn,b8 hu]
    obtain⟨ad,Q,h1,_⟩:=k.pj;rw[m.nF,h1];simp[Op.equalIn,b8 hu]
   .injection h with h;subst h;unfold eA at he;split at he<;>(try(rename_i u;cases u;done))<;>(try(cases he;done));all_goals injection he with he;subst he
    .rw[k.uG,m.uG];simp[Op.equalIn,b8 hu]
    .obtain⟨b,_,h1⟩:=m.po;rw[k.uG,h1];simp[Op.equalIn,b8 hu]
    obtain⟨b,_,h1⟩:=k.po;rw[m.uG,h1];simp[Op.equalIn,b8 hu]
   .injection h with h;subst h;unfold eA at he;split at he<;>(try(rename_i u;cases u;done))<;>(try(cases he;done));all_goals injection he with he;subst he
    .rw[k.zx,m.zx];simp[Op.equalIn,b8 hu]
    .obtain⟨p,q,_,_,h1⟩:=m.Dy;rw[k.zx,h1];simp[Op.equalIn,b8 hu]
    .obtain⟨p,q,_,_,h1⟩:=k.Dy;rw[m.zx,h1];simp[Op.equalIn,b8 hu]
    .obtain⟨p,q,h1⟩:=m.Dz;rw[k.zx,h1];simp[Op.equalIn,b8 hu]
    obtain⟨p,q,h1⟩:=k.Dz;rw[m.zx,h1];simp[Op.equalIn,b8 hu]
   .injection h with h;subst h;unfold eA at he;split at he<;>(try(rename_i u;cases u;done))<;>(try(cases he;done))
    .split at he;·injection he with he;subst he;rw[k.Bx,m.Bx];simp[Op.equalIn,b8 hu]
     cases he
    .injection he with he;subst he;obtain⟨p,_,h1⟩:=m.zw;rw[k.Bx,h1];simp[Op.equalIn,b8 hu]
    .injection he with he;subst he;obtain⟨p,_,h1⟩:=k.zw;rw[m.Bx,h1];simp[Op.equalIn,b8 hu]
    rename_i t1 _ N _ _;split at he;·cases he
    rename_i K;injection he with he;subst he;obtain⟨p,_,rfl⟩:=k.zw;obtain⟨q,_,rfl⟩:=m.zw;have:¬t1=N:=λe=>K (by subst e;exact ald _);simp only[Op.equalIn,Sem.run_bind,b8 hu,Result.andThen_ok,ne_eq,this,not_false_eq_true,bq,Sem.run_pure]
   .split at h;·cases h
    rename_i eh;rw[aho]at h;obtain⟨l,hl,rfl⟩:=h;unfold eA at he;split at he<;>(try(rename_i u;cases u;done))<;>(try(cases he;done));rename_i A;cases A;obtain⟨H,B,rfl⟩:=k.sU;obtain⟨I,C,rfl⟩:=m.sU;have D:=congrArg (λ(o:Option TypeDesc)=>match o with|some (.struct fs)=>fs|_=> #[]) hu;change P.fieldsOf t=_ at D;rw[run_equalIn_struct w n t H I (by rw[hu,D]) (by simpa using eh),D];exact Lr M B C n w E _ _ _ _ hl he
   .split at h;·rename_i d s a hd hs R;injection h with h;subst h;unfold eA at he;split at he<;>(try(rename_i u;cases u;done))<;>(try(cases he;done));rename_i A;cases A;obtain⟨H,B,rfl⟩:=k.sU;obtain⟨I,C,rfl⟩:=m.sU;obtain⟨S,F,L⟩:=KZ hs;rw[run_equalIn_array w n H I hu F];have G:=congrArg (λ(o:Option TypeInfo)=>(o.map (·.size)).getD 0) F;change P.cellsOf _=_ at G;rw[G,show(Option.map (λi:TypeInfo=>i.size) (some S)).getD 0=s from L];exact Ls M B C n w E hd hs R _ _ _ he
    cases h
   cases h
end
section
variable{P:Program}{h:cU}{ρ:aP}{H H':ai}{w:World}{nt:Nat}{aa:ap AV}{a:Act}{o:Oper}{ao:bW}{v:AV}
def GI(P:Program)(ρ:aP)(em:Bool)(f:Nat):Prop:=∀{const:Bool}{t:TypeId}{d:eE},jP P f const t=some d->∀{g:Nat}{x:AV},sL g d x=true->
 ∀{a:Value},VR ρ x a->∀(n:Nat)(w:World),f<=n->(Instr.checkKey em n t a).run P w=.ok () w
theorem Lt{em:Bool}{f:Nat}(j:GI P ρ em f){k:List AV}{m:Array Value}(o:bj ρ k m.toList)(n:Nat)(w:World)(q:f<=n):∀(fs:List Field)(l:List (Nat×Nat×Bool×eE))(g:Nat),(fs.mapM λ(g:Field)=>if g.name= "_" then none else match jP P f false g.type,fY P g.type,pi P g.type with|some d,some s,some a=>some (g.offset,s,a,d)|_,_,_=>none)=some l->sL.go g k l=true->(forIn fs PUnit.unit λ(f:Field)r=>(if f.name≠ "_" then(do(Instr.checkKey em n f.type (<-part f.type m f.offset));pure (ForInStep.yield PUnit.unit))else pure (ForInStep.yield PUnit.unit):Sem (ForInStep PUnit))).run P w=.ok PUnit.unit w
 |[],l,g,h1,h2=>by rfl
 |y::fs,l,g,h1,h2=>by
  simp only[alw,ae5,aed,ajB,adG]at h1;obtain⟨p,b,t,c,rfl⟩:=h1;split at b;·grind
  rename_i i;split at b
  .rename_i d s a hd hs u;injection b with b;subst b;cases g with
   |zero=>trivial
   |succ g=>
    simp only[sL.go]at h2;split at h2;·rename_i x e;simp only[aj6]at h2;obtain⟨z,A,v⟩:=vO (P:=P) (w:=w) o u hs e;have h3:=j hd h2.1 v n w q;have B:=Lt j o n w q fs t g c h2.2;simp_all
    grind
  grind
theorem Lu{em:Bool}{f:Nat}(c:GI P ρ em f){j:List AV}{k:Array Value}(l:bj ρ j k.toList)(n:Nat)(w:World)(m:f<=n){e:TypeId}{s:Nat}{a:Bool}{d:eE}(hd:jP P f false e=some d)(hs:fY P e=some s)(o:pi P e=some a):∀(is:List Nat)(g:Nat),sL.go g j (is.map λi=>(i*s,s,a,d))=true->(forIn is PUnit.unit λ(i:Nat)r=>(do(Instr.checkKey em n e (<-part e k (i*(<-sizeOf e))));pure (ForInStep.yield PUnit.unit):Sem (ForInStep PUnit))).run P w=.ok PUnit.unit w
 |[],g,h2=>by rfl
 |i::is,g,h2=>by
  cases g with
  |zero=>trivial
  |succ g=>
   simp only[aj7,sL.go]at h2;split at h2;·rename_i x b;simp only[aj6]at h2;obtain⟨q,t,p⟩:=vO (P:=P) (w:=w) l o hs b;have h3:=c hd h2.1 p n w m;have u:=Lu c l n w m hd hs o is g h2.2;simp_all[List.forIn_cons,Sem.run_bind,jB,Result.andThen_ok,Sem.run_pure]
   grind
theorem S7(ρ:aP)(em:Bool)(f:Nat):GI P ρ em f:=by
 induction f with
 |zero=>intro const t d u;simp[jP]at u
 |succ f k=>
  intro const t d u g x he q m n w r;cases n with
  |zero=>omega
  |succ n=>
   have e:f<=n:=af;unfold jP at u;split at u;all_goals(rename_i hu)
   .simp[Instr.checkKey,b8 hu]
   .simp[Instr.checkKey,b8 hu]
   .simp[Instr.checkKey,b8 hu]
   .simp[Instr.checkKey,b8 hu]
   .simp[Instr.checkKey,b8 hu]
   .simp[Instr.checkKey,b8 hu]
   .simp[Instr.checkKey,b8 hu]
   .injection u with u;subst u;unfold sL at he;cases x<;>cases he
   .split at u;·cases u
    rw[aho]at u;obtain⟨l,hl,rfl⟩:=u;unfold sL at he;split at he<;>(try(rename_i j;cases j;done))<;>(try(cases he;done));rename_i b;cases b;obtain⟨o,c,rfl⟩:=m.sU;have i:=Lt k c n w e _ _ _ hl he;simp only[Instr.checkKey,Sem.run_bind,b8 hu,Result.andThen_ok,<-Array.forIn_toList];rw[i];rfl
   .split at u;·rename_i d s a hd hs p;injection u with u;subst u;unfold sL at he;split at he<;>(try(rename_i j;cases j;done))<;>(try(cases he;done));rename_i b;cases b;obtain⟨o,c,rfl⟩:=m.sU;have i:=Lu k c n w e hd hs p _ _ he;simp only[Instr.checkKey,Sem.run_bind,b8 hu,Result.andThen_ok];simp only[Std.Legacy.Range.forIn_eq_forIn_range',Std.Legacy.Range.size,alJ,Nat.add_one_sub_one,Nat.div_one];rw[List.range_eq_range']at i;rw[i];rfl
    cases u
   cases u
theorem GJ{t:TypeId}{d:eE}(a:sO P t=some d):∃kd,P.underlying t=some kd/\jP P 16 false t=some d/\((kd=.bool/\d=.bool)\/(∃k,kd=.int k/\d=.int)\/(kd=.string/\d=.str)\/∃l,d=.fi l):=by
 unfold sO at a;split at a;all_goals(try(cases a;done))
 all_goals(rename_i hu;refine⟨_,hu,a,?_⟩)
 all_goals unfold jP at a;simp only[hu]at a
 .grind
 .grind
 .grind
 all_goals grind[aho]
theorem GK{t:TypeId}{kd:TypeDesc}(hu:P.underlying t=some kd)(a:kd=.bool\/(∃k,kd=.int k)\/kd=.string)(em:Bool)(n:Nat)(x:Value)(w:World):(Instr.checkKey em (n+1) t x).run P w=.ok () w:=by rcases a with rfl|⟨k,rfl⟩|rfl<;>simp[Instr.checkKey,b8 hu]
theorem DG{t:TypeId}{d:eE}(e:sO P t=some d){k:AV}(a:jA d k=true){kv:Value}(b:VR ρ k kv)(em:Bool)(w:World):(Instr.checkKey em 10000 t kv).run P w=.ok () w:=by
 obtain⟨kd,hu,he,hd⟩:=GJ e;rcases hd with⟨rfl,rfl⟩|⟨c,rfl,rfl⟩|⟨rfl,rfl⟩|⟨l,rfl⟩;·exact GK hu (.inl rfl) em 9999 kv w
 .exact GK hu (.inr (.inl ⟨_,rfl⟩)) em 9999 kv w
 .exact GK hu (.inr (.inr rfl)) em 9999 kv w
 exact S7 ρ em 16 he a b 10000 w aB
def FR(ρ:aP)(n:Nat):Option (Nat×AV)->Option (Nat×Value)->Prop
 |none,none=>True
 |some (i,v),some (j,c)=>i=j/\VR ρ v c/\i<n
 |_,_=>False
theorem Lw{t:TypeId}{d:eE}(j:jP P 16 false t=some d){k:AV}{kv:Value}(b:VR ρ k kv)(w:World):∀(es:List aT)(bx:List MapEntry)(i:Nat)(r:Option (Nat×AV)),cr ρ es bx->findKey d k es i=some r->∃a,(Instr.findAsking t kv bx i).run P w=.ok a w/\FR ρ (i+es.length) r a
 |[],[],i,r,_,h2=>by simp only[findKey,adG]at h2;subst h2;exact⟨none,by rfl,trivial⟩
 |e::es,c::bx,i,r,h1,h2=>by
  simp only[findKey]at h2;split at h2;·rename_i he;injection h2 with h2;subst h2;have:=DF ρ 16 j he b h1.1 10000 w af;refine⟨some (i,c.val),?_,rfl,h1.2.1,aB⟩;simp[this,Instr.findAsking,Op.equal,Op.maxDepth,Sem.run_bind,Result.andThen_ok,bq,Sem.run_pure]
  .rename_i he;have:=DF ρ 16 j he b h1.1 10000 w af;obtain⟨a,f,g⟩:=Lw j b w es bx (i+1) r h1.2.2.2 h2;refine⟨a,?_,by grind⟩;simp[this,f,Instr.findAsking,Op.equal,Op.maxDepth,Sem.run_bind,Result.andThen_ok,aes,bP]
  grind
 |[],_::_,_,_,h1,_=>by trivial
 |_::_,[],_,_,h1,_=>by trivial
theorem S8{t:TypeId}{kd:TypeDesc}(hu:P.underlying t=some kd){x y:Value}{b:Bool}(c:Instr.sameNow kd x y=some b)(n:Nat)(w:World):(Op.equalIn (n+1) t x y).run P w=.ok b w:=by
 unfold Instr.sameNow at c;split at c
 .split at c;·rename_i a;injection c with c;subst a;subst c;simp[Op.equalIn,b8 hu]
  grind
 .injection c with c;subst c;simp[Op.equalIn,b8 hu]
 .injection c with c;subst c;simp[Op.equalIn,b8 hu]
 grind
theorem Lx{t:TypeId}{kd:TypeDesc}(hu:P.underlying t=some kd){d:eE}(n:jP P 16 false t=some d){k:AV}{kv:Value}(g:VR ρ k kv)(w:World):∀(es:List aT)(bx:List MapEntry)(i:Nat)(r:Option (Nat×AV))(a:Option (Nat×Value)),cr ρ es bx->findKey d k es i=some r->Instr.findNow kd kv bx i=some a->FR ρ (i+es.length) r a
 |[],[],i,r,a,_,h2,h3=>by simp only[findKey,adG]at h2;subst h2;simp only[Instr.findNow,adG]at h3;subst h3;trivial
 |e::es,c::bx,i,r,a,h1,h2,h3=>by
  simp only[findKey]at h2;simp only[Instr.findNow]at h3;have Ly:∀b f,eA 64 d k e.key=some b->Instr.sameNow kd kv c.key=some f->b=f:=by intro b f j l;have e1:=DF ρ 16 n j g h1.1 10000 w af;have e2:=S8 hu l 9999 w;have m:=e1.symm.trans e2;injection m
  split at h2
  .rename_i he;injection h2 with h2;subst h2;split at h3;·injection h3 with h3;subst h3;exact⟨rfl,h1.2.1,aB⟩
   all_goals grind
  .rename_i he;split at h3;·grind
   .have:=Lx hu n g w es bx (i+1) r a h1.2.2.2 h2 h3;grind
   grind
  grind
 |[],_::_,_,_,_,h1,_,_=>by trivial
 |_::_,[],_,_,_,h1,_,_=>by trivial
theorem uI{t:TypeId}{d:eE}(j:sO P t=some d){k:AV}{kv:Value}(b:VR ρ k kv)(w:World){es:List aT}{bx:List MapEntry}(he:cr ρ es bx){r:Option (Nat×AV)}(c:findKey d k es 0=some r):∃a,(Instr.findKey t kv bx).run P w=.ok a w/\FR ρ es.length r a:=by obtain⟨kd,hu,e,_⟩:=GJ j;cases f:Instr.findNow kd kv bx 0 with|some a=>have:=Lx hu e b w es bx 0 r a he c f;simp_all[akh,Instr.findKey,b8]|none=>obtain⟨a,g,i⟩:=Lw e b w es bx 0 r he c;simp_all[akh,Instr.findKey,b8]
theorem Lz{s t:ByteArray}(a:j8 (s.data.toList.map alv) (t.data.toList.map alv)=true):s=t:=by rw[vN]at a;exact ByteArray.ext (Array.toList_inj.1 (GA (eq_of_beq a)))
theorem S9{a b:AV}(i:FD a b=true){x y:Value}(c:VR ρ a x)(d:VR ρ b y):x=y:=by
 unfold FD at i;split at i;·rw[c.rO,d.rO,eq_of_beq i]
 .simp only[aj6]at i;obtain⟨e,h1,rfl⟩:=c.jQ;obtain⟨f,h2,rfl⟩:=d.jQ;have:=aj4 i.1;have:=xz (h1.symm.trans (this.trans h2));have h3:=i.2;rw[fQ]at h3;rw[this,eq_of_beq h3]
 .obtain⟨t1,h1,rfl⟩:=c.nE;obtain⟨g,h2,rfl⟩:=d.nE;subst h1;subst h2;rw[Lz i]
 cases i
theorem LA:∀{l m:List AV},zg l m=true->∀{x y:List Value},bj ρ l x->bj ρ m y->x=y|[],[],_,[],[],_,_=>rfl|a::l,b::m,e,c::x,d::y,h1,h2=>by simp only[zg,aj6]at e;rw[S9 e.1 h1.1 h2.1,LA e.2 h1.2 h2.2]|[],_::_,e,_,_,_,_=>by simp[zg]at e|_::_,[],e,_,_,_,_=>by simp[zg]at e|[],[],_,_::_,_,e,_=>by simp[bj]at e|[],[],_,[],_::_,_,e=>by simp[bj]at e|_::_,_::_,_,[],_,e,_=>by simp[bj]at e|_::_,_::_,_,_::_,[],_,e=>by simp[bj]at e
theorem GL{t:TypeId}{d:eE}(G:sO P t=some d){k:AV}{kv:Value}(m:VR ρ k kv):∀{es:List aT}{bx:List MapEntry}(i0 i:Nat)(v:AV),cr ρ es bx->findKey d k es i0=some (some (i0+i,v))->xk d k es i=true->∃c,bx[i]?=some c/\c.key=kv
 |[],[],i0,i,v,_,f,_=>by trivial
 |e::es,c::bx,i0,i,v,h1,f,hs=>by
  simp only[findKey]at f;cases i with
  |zero=>
   refine⟨c,rfl,?_⟩;split at f
   .rename_i he;obtain⟨kd,hu,g,hd⟩:=GJ G;rcases hd with⟨rfl,rfl⟩|⟨A,rfl,rfl⟩|⟨rfl,rfl⟩|⟨l,rfl⟩;·unfold eA at he;split at he<;>(try(rename_i g _;cases g;done))<;>(try(cases he;done));rename_i b;have a:=h1.1;rw[b]at a;injection he with he;rw[a.rO,m.rO,eq_of_beq he]
    .unfold eA at he;split at he<;>(try(rename_i g _;cases g;done))<;>(try(cases he;done));rename_i b;have a:=h1.1;rw[b]at a;split at he;·rename_i n;injection he with he;rw[fQ]at he;obtain⟨B,e1,rfl⟩:=m.jQ;obtain⟨C,e2,o⟩:=a.jQ;have:=xz (e1.symm.trans (n.trans e2));rw[o,this,eq_of_beq he]
     cases he
    .unfold eA at he;split at he<;>(try(rename_i g _;cases g;done))<;>(try(cases he;done));rename_i b;have a:=h1.1;rw[b]at a;injection he with he;obtain⟨t1,e1,rfl⟩:=m.nE;obtain⟨D,e2,o⟩:=a.nE;subst e1;subst e2;rw[o,Lz he]
    simp only[xk]at hs;split at hs;·rename_i E F n p;have a:=h1.1;rw[p]at a;obtain⟨x,q,e1⟩:=m.sU;obtain⟨y,r,e2⟩:=a.sU;have:=LA hs q r;rw[e1,e2,Array.toList_inj.1 this]
    .cases hs
    rename_i h2 _;exact(h2 _ rfl).elim
   .exfalso;have:∀(es:List aT)(j i:Nat)(v:AV),findKey d k es j=some (some (i,v))->j<=i:=by
     intro es;induction es with
     |nil=>intro j i v G;simp[findKey]at G
     |cons e es s=>
      intro j i v G;simp only[findKey]at G;split at G;·simp only[adG,aj1]at G;omega
      .have:=s _ _ _ G;omega
      cases G
    have:=this _ _ _ _ f;omega
   cases f
  |succ i=>
   split at f;·simp only[adG,aj1]at f;omega
   .obtain⟨u,w,z⟩:=GL G m (i0+1) i v h1.2.2.2 (by rw[f];simp;omega) hs;exact⟨u,by simpa using w,z⟩
   cases f
 |[],_::_,_,_,_,h1,_,_=>by trivial
 |_::_,[],_,_,_,h1,_,_=>by trivial
end
section
variable{P:Program}{h:cU}{ρ:aP}{H H':ai}{w:World}{nt:Nat}{aa:ap AV}{a:Act}{o:Oper}{ao:bW}{v:AV}
def _root_.Go.Value.rQ:Value->Bool
 |.int .. |.float .. |.complex .. |.string .. =>false
 |_=>true
def AV.rQ:AV->Bool
 |.int .. |.str .. |.co=>false
 |_=>true
theorem VR.rQ{x:AV}{c:Value}(a:VR ρ x c)(k:x.rQ=true):c.rQ=true:=by cases x<;>cases c<;>first|(simp[VR]at a;done)|rfl|(simp[AV.rQ]at k;done)
theorem Ta{x y:Value}(a:x.rQ=true)(t:TypeId):binOp .eql t x y=(do pure (.bool (<-Op.equal t x y))):=by cases x<;>first|(simp[Value.rQ]at a;done)|(cases y<;>rfl)
theorem Tc{x y:Value}(a:x.rQ=true)(t:TypeId):binOp .neq t x y=(do pure (.bool (!(<-Op.equal t x y)))):=by cases x<;>first|(simp[Value.rQ]at a;done)|(cases y<;>rfl)
theorem Td{g:Nat}{d:eE}{x y:AV}{r:Bool}(a:eA g d x y=some r)(h1:d≠.int)(h2:d≠.str):x.rQ=true:=by unfold eA at a;split at a<;>first|rfl|(exact absurd rfl h1)|(exact absurd rfl h2)|(cases a;done)
theorem GM{g:Nat}{d:eE}{x y:AV}{r:Bool}(a:eA g d x y=some r):x.bB=true/\y.bB=true:=by unfold eA at a;split at a<;>first|exact⟨rfl,rfl⟩|(cases a;done)
theorem LB{f:Nat}{c:Bool}{t:TypeId}{d:eE}(i:jP P f c t=some d):(d=.int->∃k,P.underlying t=some (.int k))/\(d=.str->P.underlying t=some .string)/\(∀a e,d=.iface a e->a=c/\∃b,P.underlying t=some (.interface b)/\e=b.isEmpty):=by
 cases f with
 |zero=>simp[jP]at i
 |succ f=>
  unfold jP at i;split at i;all_goals(try(cases i;done))
  all_goals(rename_i hu)
  all_goals(try(injection i with i;subst i))
  all_goals(try(refine⟨λe=>?_,λe=>?_,λa g e=>?_⟩))
  all_goals(try(first|(cases e;done)|exact⟨_,hu⟩|exact hu))
  .split at i;·injection i with i;subst i;cases e
   cases i
  .split at i;·injection i with i;subst i;cases e
   cases i
  .split at i;·injection i with i;subst i;cases e
   cases i
  .injection e with e1 e2;exact⟨e1.symm,_,hu,e2.symm⟩
  .split at i;·cases i
   rw[aho]at i;obtain⟨_,_,i⟩:=i;subst i;cases e
  .split at i;·cases i
   rw[aho]at i;obtain⟨_,_,i⟩:=i;subst i;cases e
  .split at i;·cases i
   rw[aho]at i;obtain⟨_,_,i⟩:=i;subst i;cases e
  .split at i;·injection i with i;subst i;cases e
   cases i
  .split at i;·injection i with i;subst i;cases e
   cases i
  split at i;·injection i with i;subst i;cases e
  cases i
theorem Te{t:TypeId}{a:Array (String×TypeId)}(b:P.underlying t=some (.interface a))(n:Nat)(w:World):(Op.eqGuardIn (n+1) t .nilIface .nilIface).run P w=.ok (!a.isEmpty) w:=by simp[b,Op.eqGuardIn,Sem.run_bind,b8,Result.andThen_ok,Sem.run_pure]
theorem Tf{op:BinOp}{t:TypeId}{x y:Operand}{c j:AV}{e i:Value}(k:VR ρ c e)(m:VR ρ j i){g f:Nat}{d:eE}{r:Bool}(hd:jP P f (rM x||rM y) t=some d)(hg:zp P d t=true)(he:eA g d c j=some r)(w:World):(eqGuard op t x y e i).run P w=.ok () w:=by
 have h0:op=.eql\/op=.neq\/(eqGuard op t x y e i).run P w=.ok () w:=by cases op<;>first|exact .inl rfl|exact .inr (.inl rfl)|exact .inr (.inr (by simp[eqGuard]))
 have h1:op=.eql\/op=.neq->(eqGuard op t x y e i)=eqGuard .eql t x y e i:=by rintro(rfl|rfl)<;>rfl
 have key:(eqGuard .eql t x y e i).run P w=.ok () w:=by
  unfold eqGuard;simp only[aku,aes,bP,pure_bind];split
  .have h1:c=.nilIface:=by have a:=(GM he).1;cases c<;>first|rfl|(simp[AV.bB]at a;done)|(simp[VR]at k)
   have h2:j=.nilIface:=by have a:=(GM he).2;cases j<;>first|rfl|(simp[AV.bB]at a;done)|(simp[VR]at m)
   subst h1;subst h2;unfold eA at he;split at he<;>(try(rename_i a;cases a;done))<;>(try(rename_i a _;cases a;done))<;>(try(cases he;done));split at he
   .rename_i b;obtain⟨e1,p,e2,q⟩:=(LB hd).2.2 _ _ rfl;subst e1;have n:p.isEmpty=true->(Op.eqGuardIn Op.maxDepth t .nilIface .nilIface).run P w=.ok false w:=λo=>by have:=Te e2 9999 w;rw[o]at this;exact this
    rw[q]at b;clear h0 h1 hd hg he k m;cases x<;>cases y<;>simp[rM]at b⊢<;>simp[n (by simpa using b)]
   cases he
  .obtain⟨s,h1⟩:∃l,c=.agg l:=by have a:=(GM he).1;cases c<;>first|exact⟨_,rfl⟩|(simp[AV.bB]at a;done)|(simp[VR]at k)
   subst h1;have:P.eqGuardType P.depth t=false:=by cases d with|fi l=>simpa[zp]using hg|_=>exfalso;clear h0 h1 hd hg k m;cases g<;>simp[eA]at he
   simp[this]
  simp
 grind
theorem Tg(B:ef P h ρ H w nt aa a){op:BinOp}{t:TypeId}{x y:Operand}{p:TypeId}(A:o.op=.binOp op t x y p){neg:Bool}{d:eE}{s u:aJ}(c:op=if neg then .neq else .eql)(hd:jP P 16 (rM x||rM y) t=some d)(hg:zp P d t=true)(h1:hZ P nt x=some s)(h2:hZ P nt y=some u)(l:∀k,P.underlying t≠some (.int k))(m:P.underlying t≠some .string)(he:aE (.eq neg d s u) aa H=some (v,H')):bE P h ρ w (execOp a.eval o) v H':=by
 have i:=B.gv h1;have z:=B.gv h2;simp only[aE,aho,aj1]at he;obtain⟨q,⟨r,j,rfl⟩,rfl,rfl⟩:=he;have g:=LB hd;have b:=VR.rQ i (Td j (λe=>by obtain⟨k,g⟩:=g.1 e;exact l k g) (λe=>m (g.2.1 e)));have f:=DF ρ 16 hd j i z 10000 w af;have n:=Tf (op:=op) (P:=P) i z hd hg j w;refine bE.val (c:=.bool (r !=neg)) (w':=w) ?_ (dp.bX B.I (by rfl));simp only[execOp,A,Sem.run_bind,n,Result.andThen_ok];cases neg;·simp[c,b,f,aes,bP,Ta,Op.equal,Op.maxDepth,Sem.run_bind,Result.andThen_ok,Sem.run_pure,Bool.bne_false]
 simp[c,b,f,bq,Tc,Op.equal,Op.maxDepth,Sem.run_bind,Result.andThen_ok,Sem.run_pure,Bool.bne_true]
theorem cr.kY{k v:AV}{kv a:Value}(b:VR ρ k kv)(d:VR ρ v a):∀{es:List aT}{bx:List MapEntry}(i:Nat),cr ρ es bx->cr ρ (kY v k es i) (bx.modify i λe=>{e with key:=kv,val:=a})|[],[],i,_=>by simp[Go.am.kY,cr]|e::es,c::bx,0,f=>by simp_all[cr,Go.am.kY,List.modify_zero_cons]|e::es,c::bx,i+1,f=>by exact⟨f.1,f.2.1,f.2.2.1,cr.kY b d i f.2.2.2⟩|[],_::_,_,f=>by trivial|_::_,[],_,f=>by trivial
theorem cr.LC{v:AV}{a:Value}(b:VR ρ v a):∀{es:List aT}{bx:List MapEntry}(i:Nat),cr ρ es bx->cr ρ (es.modify i λe=>{e with val:=v}) (bx.modify i λe=>{e with val:=a})|[],[],i,_=>by grind|e::es,c::bx,0,d=>by simp_all[cr,List.modify_zero_cons]|e::es,c::bx,i+1,d=>by exact⟨d.1,d.2.1,d.2.2.1,cr.LC b i d.2.2.2⟩|[],_::_,_,d=>by trivial|_::_,[],_,d=>by trivial
theorem cr.push{k v:AV}{kv a:Value}(n:Nat)(b:VR ρ k kv)(d:VR ρ v a):∀{es:List aT}{bx:List MapEntry},cr ρ es bx->cr ρ (es++[⟨k,v,n⟩]) (bx++[{key:=kv,val:=a,born:=n}])|[],[],_=>by trivial|e::es,c::bx,f=>by exact⟨f.1,f.2.1,f.2.2.1,cr.push n b d f.2.2.2⟩|[],_::_,f=>by trivial|_::_,[],f=>by trivial
theorem cr.erase:∀{es:List aT}{bx:List MapEntry}(i:Nat),cr ρ es bx->cr ρ (pN es i) (bx.eraseIdx i)|[],[],i,_=>by trivial|e::es,c::bx,0,a=>by simp_all[cr,pN,List.eraseIdx_cons_zero]|e::es,c::bx,i+1,a=>by exact⟨a.1,a.2.1,a.2.2.1,cr.erase i a.2.2.2⟩|[],_::_,_,a=>by trivial|_::_,[],_,a=>by trivial
theorem cr.vK:∀{es:List aT}{bx:List MapEntry}(i:Nat),i<es.length->cr ρ es bx->∃c,bx[i]?=some c/\c.born=vK es i|[],_,i,hi,_=>by grind|e::es,c::bx,0,_,a=>by exact⟨c,rfl,a.2.2.1.symm⟩|e::es,c::bx,i+1,hi,a=>by exact cr.vK (es:=es) i (by grind) a.2.2.2|_::_,[],_,_,a=>by trivial
theorem cr.qE(b:Nat):∀{es:List aT}{bx:List MapEntry}(i0 i:Nat),cr ρ es bx->qE b es i0=some i->i0<=i/\bx.findIdx? (λe=>(e.born:Int)==(b:Int))=some (i - i0)/\∃e c,es[i - i0]?=some e/\bx.find? (λe=>e.born==b)=some c/\VR ρ e.key c.key/\VR ρ e.val c.val
 |[],_,_,_,_,p=>by trivial
 |e::es,c::bx,i0,i,p,a=>by
  simp only[Go.am.qE]at a;split at a
  .rename_i hb;have hb:=aj4 hb;injection a with a;subst a;have d:c.born=b:=by rw[<-p.2.2.1];exact hb
   refine⟨afb _,by grind,e,c,aB,by grind,p.1,p.2.1⟩
  rename_i hb;have hb:¬e.born=b:=λq=>hb (by rw[q];exact ald _);have d:¬c.born=b:=by rw[<-p.2.2.1];exact hb
  have f:¬(c.born:Int)=(b:Int):=af;obtain⟨g,j,k,l,m,n,o⟩:=cr.qE b (i0+1) i p.2.2.2 a;grind
 |_::_,[],_,_,p,_=>by trivial
theorem BB{b:Nat}(w:World){a:Obj}(g:w.heap[b]?=some a)(d:∀c e f,a≠.cells c e f)(o:Obj):(setObj b o).run P w=.ok () {w with heap:=w.heap.setIfInBounds b o}:=by cases a with|cells c e f=>grind|_=>simp[g,setObj,Sem.run]
theorem map_set(g:bz P h ρ H w){id:ab}{es:List aT}{a:Nat}(e:H.get id=.map es a){b:Nat}(hb:ρ id=some (b,0)){es':List aT}{ces':Array MapEntry}(he:cr ρ es' ces'.toList)(c:Nat)(ia:ke ces' c){w1:World}(e1:w1.heap=w.heap)(e2:w1.os=w.os)(i:w1.tape=w.tape)(j:w1.output=w.output):∃w',(setObj b (.map ces' c)).run P w1=.ok () w'/\bz P h ρ (H.set id (.map es' c)) w'/\eC h w w':=by
 have f:H.get id≠.none:=by rw[e];simp
 obtain⟨bx,d,_⟩:=rP g e hb;refine⟨_,BB w1 (by rw[e1];exact d) (λ_ _ _=>by simp) _,?_⟩;have:=g.sS (i:=id) (o':=.map es' c) (ob':=.map ces' c) f (by rw[e];rfl) hb rfl (by simp only[OR];exact⟨trivial,trivial,ia,he⟩) (by simp[gS]) (w':={w1 with heap:=w1.heap.setIfInBounds b (.map ces' c)}) (by simp only[e1]) e2 i j;rw[e]at this;exact this
theorem LD(k:Value)(w:World):∃a,(Instr.keyThatStays k k).run P w=.ok k a/\a.heap=w.heap/\a.os=w.os/\a.tape=w.tape/\a.output=w.output:=by
 unfold Instr.keyThatStays;split;·simp
 cases b:(Question.extern "map.whichKeyStays" 2).forced;·exact⟨w.drew,by simp_all,rfl,rfl,rfl,rfl⟩
 simp_all
end
section
variable{P:Program}{f:cU}{ρ:aP}{H H':ai}{w:World}{nt:Nat}{aa:ap AV}{a:Act}{v:AV}
theorem bz.congr(h:bz P f ρ H w){a:ai}(c:a.next=H.next)(hg:∀j,a.get j=H.get j):bz P f ρ a w:=⟨λi hi=>by rw[hg]at hi⊢;exact h.eF i hi,λi j b x y d hi hj=>by rw[hg]at hi hj;rw[hg,hg];exact h.k6 i j b x y d hi hj,λi j hi=>by rw[hg]at hi⊢;rw[c];exact h.aM i j hi,λi b x hi e=>by rw[hg]at hi e;exact h.wr i b x hi e,λi hi=>by rw[c]at hi;rw[hg];exact h.eo i hi,h.new,h.mq,λi b x g hi=>by rw[hg]at hi⊢;exact h.ka i b x g hi,h.fH,λi b x hi=>by rw[hg]at hi;exact h.rd i b x hi,λi hi=>by rw[hg,c];exact⟨(h.un i hi).1,(h.un i hi).2.1,λj=>by rw[hg];exact(h.un i hi).2.2 j⟩,h.fc⟩
theorem GN{w:World}{b:Nat}{a:Obj}(h:w.heap[b]?=some a):w.heap.setIfInBounds b a=w.heap:=by grind
theorem bz.LF(h:bz P f ρ H w){i:ab}{c:cq}(hi:H.get i≠.none)(j:(H.get i).lz=false)(k:(H.get i).aM=[])(d:c.aM=[])(l:∀x a,OR P ρ (H.get i) x a->OR P ρ c x a/\∀q,gS P q c a):bz P f ρ (H.set i c) w:=by obtain⟨b,x,a,e,hl,hb,g⟩:=h.aH hi;obtain⟨h1,h2⟩:=l x a g;have:=(h.sS (w':=w) hi j e d h1 (h2 _) (by rw[GN hb]) rfl rfl rfl).1;rw[k]at this;exact this
def aT.kv(e:aT):AV×AV:=(e.key,e.val)
theorem dP.cM{es:List aT}{l m:List MapEntry}(d:l.Perm m):dP ρ es l->∃a,a.Perm es/\dP ρ a m:=by
 induction d generalizing es with
 |nil=>intro h;exact⟨es,alM _,h⟩
 |cons x _ g=>intro h;cases es with|nil=>simp[dP]at h|cons e es=>simp only[dP]at h;obtain⟨a,p,q⟩:=g h.2.2;exact⟨e::a,p.cons e,by simp only[dP];exact⟨h.1,h.2.1,q⟩⟩
 |swap x y r=>intro h;match es,h with|[],h=>simp[dP]at h|[_],h=>simp[dP]at h|e1::e2::es,h=>simp only[dP]at h;exact⟨e2::e1::es,akS ..,by simp only[dP];exact⟨h.2.2.1,h.2.2.2.1,h.1,h.2.1,h.2.2.2.2⟩⟩
 |trans _ _ b c=>intro h;obtain⟨e1,p1,i⟩:=b h;obtain⟨e2,p2,j⟩:=c i;exact⟨e2,p2.trans p1,j⟩
theorem dP.DH{es a:List aT}(g:es.Perm a):∀{l:List MapEntry},dP ρ es l->∃b,b.Perm l/\dP ρ a b:=by
 induction g with
 |nil=>intro l h;exact⟨l,alM _,h⟩
 |cons x _ i=>intro l h;cases l with|nil=>simp[dP]at h|cons c l=>simp only[dP]at h;obtain⟨b,p,q⟩:=i h.2.2;exact⟨c::b,p.cons c,by simp only[dP];exact⟨h.1,h.2.1,q⟩⟩
 |swap x y r=>intro l h;match l,h with|[],h=>simp[dP]at h|[_],h=>simp[dP]at h|c1::c2::l,h=>simp only[dP]at h;exact⟨c2::c1::l,akS ..,by simp only[dP];exact⟨h.2.2.1,h.2.2.2.1,h.1,h.2.1,h.2.2.2.2⟩⟩
 |trans _ _ d e=>intro l h;obtain⟨e1,p1,j⟩:=d h;obtain⟨e2,p2,k⟩:=e j;exact⟨e2,p2.trans p1,k⟩
theorem dP.kv:∀{es a:List aT}{m:List MapEntry},es.map aT.kv=a.map aT.kv->dP ρ es m->dP ρ a m
 |[],[],m,_,h=>h
 |e::es,d::a,m,b,h=>by simp only[aj7,akn,aT.kv,aj1]at b;cases m with|nil=>trivial|cons c m=>simp only[dP]at h⊢;rw[<-b.1.1,<-b.1.2];exact⟨h.1,h.2.1,dP.kv b.2 h.2.2⟩
 |[],_::_,_,b,_=>by grind
 |_::_,[],_,b,_=>by grind
def zD:List aT->List MapEntry->List aT
 |e::es,c::m=>{e with born:=c.born}::zD es m
 |_,_=>[]
theorem dP.exact:∀{es:List aT}{m:List MapEntry},dP ρ es m->cr ρ (zD es m) m/\(zD es m).map aT.kv=es.map aT.kv|[],[],_=>by trivial|e::es,c::m,h=>by obtain⟨h1,h2⟩:=dP.exact h.2.2;simp only[zD,cr,aj7,h2];exact⟨⟨h.1,h.2.1,aB,h1⟩,by rfl⟩|[],_::_,h=>by trivial|_::_,[],h=>by trivial
theorem cr.open:∀{es:List aT}{m:List MapEntry},cr ρ es m->dP ρ es m|[],[],_=>by trivial|e::es,c::m,h=>by exact⟨h.1,h.2.1,cr.open h.2.2.2⟩|[],_::_,h=>by trivial|_::_,[],h=>by trivial
theorem LG(h:bz P f ρ H w){id:ab}{es:List aT}(g:H.get id=.dI es):∃(c i:List aT)(a:Nat),c.Perm es/\i.map aT.kv=c.map aT.kv/\bz P f ρ (H.set id (.map i a)) w:=by obtain⟨b,x,j,e,hl,hb,d⟩:=h.aH (i:=id) (by rw[g];simp);rw[g]at d;cases j<;>simp only[OR]at d;rename_i bx a;obtain⟨rfl,ia,l,h1,h2⟩:=d;obtain⟨c,p1,p2⟩:=dP.cM h1 h2;obtain⟨p3,p4⟩:=dP.exact p2;refine⟨c,zD c bx.toList,a,p1,p4,?_⟩;have:=(h.sS (i:=id) (o':=.map (zD c bx.toList) a) (ob':=.map bx a) (w':=w) (by rw[g];simp) (by rw[g];rfl) e rfl (by simp only[OR];exact⟨trivial,trivial,ia,p3⟩) (by simp[gS]) (by rw[GN hb]) rfl rfl rfl).1;rw[g]at this;exact this
theorem GO(h:bz P f ρ H w){id:ab}{c es d:List aT}{b:Nat}(e:H.get id=.map c b)(g:d.Perm es)(i:c.map aT.kv=d.map aT.kv):bz P f ρ (H.set id (.dI es)) w:=by refine h.LF (by rw[e];simp) (by rw[e];rfl) (by rw[e];rfl) rfl ?_;intro x j a;rw[e]at a;cases j<;>simp only[OR]at a⊢;obtain⟨rfl,rfl,ia,h3⟩:=a;obtain⟨l,p1,p2⟩:=dP.DH g (dP.kv i (cr.open h3));exact⟨⟨by trivial,ia,l,p1,p2⟩,λq=>by simp[gS]⟩
theorem LH{d:eE}{k:AV}:∀{es a:List aT},es.map aT.kv=a.map aT.kv->gJ.go d k es=gJ.go d k a|[],[],_=>rfl|e::es,b::a,h=>by simp only[aj7,akn,aT.kv,aj1]at h;simp only[gJ.go,LH h.2,h.1.1,h.1.2]|[],_::_,h=>by grind|_::_,[],h=>by grind
theorem Ti{d:eE}{k:AV}{es a:List aT}(h:es.Perm a):gJ.go d k es=gJ.go d k a:=by
 induction h with
 |nil=>rfl
 |cons x _ g=>simp only[gJ.go,g]
 |swap x y r=>
  simp only[gJ.go];cases h1:eA 64 d k x.key with
  |none=>cases h2:eA 64 d k y.key with|none=>simp|some b=>cases b<;>simp
  |some q=>cases h2:eA 64 d k y.key with|none=>cases q<;>simp|some b=>cases h3:gJ.go d k r with|none=>cases q<;>cases b<;>simp|some r=>cases r<;>cases q<;>cases b<;>simp
 |trans _ _ c e=>exact c.trans e
theorem LI{d:eE}{k v:AV}:∀{es a:List aT},es.map aT.kv=a.map aT.kv->(lW d k v es).map aT.kv=(lW d k v a).map aT.kv
 |[],[],_=>rfl
 |e::es,b::a,h=>by
  simp only[aj7,akn,aT.kv,aj1]at h;have:mM d k e=mM d k b:=by simp only[mM,h.1.1]
  simp only[lW,aj7,LI h.2,this,akn,and_true];grind[aT.kv]
 |[],_::_,h=>by grind
 |_::_,[],h=>by grind
theorem DI{d:eE}{k:AV}:∀{es a:List aT},es.map aT.kv=a.map aT.kv->(mN d k es).map aT.kv=(mN d k a).map aT.kv
 |[],[],_=>rfl
 |e::es,b::a,h=>by
  simp only[aj7,akn,aT.kv,aj1]at h;have:mM d k e=mM d k b:=by simp only[mM,h.1.1]
  simp only[mN,this];split;·exact DI h.2
  simp only[aj7,DI h.2,akn,and_true];simp[h,aT.kv]
 |[],_::_,h=>by grind
 |_::_,[],h=>by grind
theorem Tj(d:eE)(k v:AV)(es:List aT):lW d k v es=es.map λe=>if mM d k e then{e with key:=k,val:=v}else e:=by induction es with|nil=>rfl|cons e es a=>simp[a,lW,aj7]
theorem Tk(d:eE)(k:AV)(es:List aT):mN d k es=es.filter λe=>!mM d k e:=by induction es with|nil=>rfl|cons e es a=>simp only[mN,List.filter_cons,a];cases mM d k e<;>simp
theorem Tl(d:eE)(k v:AV){es a:List aT}(h:es.Perm a):(lW d k v es).Perm (lW d k v a):=by grind[Tj]
theorem LJ(d:eE)(k:AV){es a:List aT}(h:es.Perm a):(mN d k es).Perm (mN d k a):=by grind[Tk]
theorem zE{d:eE}{k v:AV}:∀{es:List aT},gJ.go d k es=some none->lW d k v es=es/\mN d k es=es/\∀i,findKey d k es i=some none
 |[],_=>⟨rfl,rfl,λ_=>rfl⟩
 |e::es,h=>by
  simp only[gJ.go]at h;split at h;·grind
  .rename_i r h1 h2;injection h with h;subst h;obtain⟨a,b,c⟩:=zE (v:=v) h2;simp[h1,a,b,c,mM,lW,mN,findKey]
  grind
theorem DJ{d:eE}{k v x:AV}:∀{es:List aT},gJ.go d k es=some (some x)->∀i0,∃i,findKey d k es i0=some (some (i0+i,x))/\i<es.length/\kY v k es i=lW d k v es/\pN es i=mN d k es
 |[],h,_=>by simp_all[gJ.go]
 |e::es,h,i0=>by
  simp only[gJ.go]at h;split at h;·rename_i h1 h2;injection h with h;injection h with h;subst h;obtain⟨a,b,_⟩:=zE (v:=v) h2;simp[h1,a,b,mM,findKey,kY,lW,bq,pN,mN]
  .rename_i r h1 h2;injection h with h;subst h;obtain⟨i,a,b,c,g⟩:=DJ (v:=v) h2 (i0+1);have:mM d k e=false:=by simp[mM,h1]
   refine⟨i+1,by grind[findKey],by grind,?_,?_⟩;all_goals simp[this,c,g,kY,lW,pN,mN]
  grind
theorem GP{d:eE}(hd:ur d=true)(k:AV):∀(es:List aT)(i:Nat),i<es.length->xk d k es i=true
 |[],i,h=>by grind
 |e::es,0,_=>by cases d<;>first|rfl|(simp[ur]at hd)
 |e::es,i+1,h=>by exact GP hd k es i (by grind)
def bW.LL:bW->Option aJ
 |.lookup _ _ _ m _|.jy _ m _ _|.delete _ m _=>some m
 |_=>none
def xC(aa:ap AV)(H:ai)(ao:bW):Prop:=∀a id es,ao.LL=some a->gv aa a=.map id->H.get id≠.dI es
theorem GQ{s:Sem Next}{ao:bW}(n:∀{L H1:ai}{v:AV},bz P f ρ L w->xC aa L ao->aE ao aa L=some (v,H1)->bE P f ρ w s v H1)(Q:bz P f ρ H w)(he:aE ao aa H=some (v,H')):bE P f ρ w s v H':=by
 by_cases M:xC aa H ao;·exact n Q M he
 simp only[xC,Classical.not_forall,not_imp,ne_eq,Classical.not_not]at M;obtain⟨N,id,es,A,B,I⟩:=M;obtain⟨D,b,a,F,G,p⟩:=LG Q I;have t:xC aa (H.set id (.map b a)) ao:=by intro ag av E h1 h2;rw[A]at h1;injection h1 with h1;subst h1;rw[B]at h2;injection h2 with h2;subst h2;rw[ai.aF,aK rfl];simp
 have hg:(H.set id (.map b a)).get id=.map b a:=by rw[ai.aF,aK rfl]
 have l:∀{v:AV}{esy es1 E:List aT}{c:Nat}{H1 J:ai},bE P f ρ w s v H1->H1.get id=.map esy c->(∀j,j≠id->H1.get j=H.get j)->H1.next=H.next->es1.Perm E->esy.map aT.kv=es1.map aT.kv->J.get id=.dI E->(∀j,j≠id->J.get j=H.get j)->J.next=H.next->bE P f ρ w s v J:=by
  intro v esy es1 E c H1 J R S T V W X Y Z g8;obtain⟨q,w',hr,O,x1,x2,x3,x4⟩:=R;refine⟨q,w',hr,O,x1,x2,(GO x3 S W X).congr (by rw[g8];exact V.symm) ?_,x4⟩;intro j;rw[ai.aF];by_cases e:j=id;·subst e;rw[aK rfl,Y]
  rw[aq e,T j e,Z j e]
 have o:∀d k,gJ d k es=gJ d k b:=by
  intro d k;unfold gJ;split;·rw[<-Ti F,<-LH G]
  rfl
 have g:∀{d:eE}{k:AV}{r:Option AV},gJ d k b=some r->ur d=true/\gJ.go d k b=some r:=by
  intro d k r h;unfold gJ at h;split at h;·exact⟨by assumption,h⟩
  cases h
 cases ao<;>simp only[bW.LL,adG,reduceCtorEq]at A;all_goals subst A
 case lookup d z ok N k=>
  simp only[aE]at he;split at he;·cases he
  rename_i m;simp only[B,I,o]at he;split at he;·rename_i x C;obtain⟨h1,h2⟩:=g C;obtain⟨i,u,_⟩:=DJ (v:=x) h2 0;obtain⟨rfl,rfl⟩:=he;refine l (n p t (v:=if ok=true then .tuple [x,.bool true]else x) (H1:=H.set id (.map b a)) ?_) hg (λj hj=>by rw[ai.aF,aq hj]) rfl F G I (λ_ _=>rfl) rfl;simp only[aE,B,hg,u,m,aes,bP]
  .rename_i C;obtain⟨h1,h2⟩:=g C;obtain⟨_,_,u⟩:=zE (v:=z) h2;obtain⟨rfl,rfl⟩:=he;refine l (n p t (v:=if ok=true then .tuple [z,.bool false]else z) (H1:=H.set id (.map b a)) ?_) hg (λj hj=>by rw[ai.aF,aq hj]) rfl F G I (λ_ _=>rfl) rfl;simp only[aE,B,hg,u,m,aes,bP]
  cases he
 case jy d N k x=>
  simp only[aE]at he;split at he;·cases he
  rename_i m;simp only[B,I,o]at he;split at he;·rename_i y C;obtain⟨h1,h2⟩:=g C;obtain⟨i,u,K,f3,_⟩:=DJ (v:=gv aa x) h2 0;obtain⟨rfl,rfl⟩:=he;refine l (esy:=kY (gv aa x) (gv aa k) b i) (es1:=lW d (gv aa k) (gv aa x) D) (c:=a) (n p t (v:=.alR) (H1:=(H.set id (.map b a)).set id (.map (kY (gv aa x) (gv aa k) b i) a)) ?_) (by rw[ai.aF,aK rfl]) (λj hj=>by rw[ai.aF,aq hj,ai.aF,aq hj]) rfl (Tl d _ _ F) (by rw[f3];exact LI G) (by rw[ai.aF,aK rfl]) (λj hj=>by rw[ai.aF,aq hj]) rfl;simp only[aE,B,hg,u,m,aes,bP,akh,GP h1 _ _ _ K,bq]
  .rename_i C;obtain⟨h1,h2⟩:=g C;obtain⟨_,_,u⟩:=zE (v:=gv aa x) h2;obtain⟨rfl,rfl⟩:=he;refine l (esy:=b++[⟨gv aa k,gv aa x,a⟩]) (es1:=D++[⟨gv aa k,gv aa x,0⟩]) (c:=a+1) (n p t (v:=.alR) (H1:=(H.set id (.map b a)).set id (.map (b++[⟨gv aa k,gv aa x,a⟩]) (a+1))) ?_) (by rw[ai.aF,aK rfl]) (λj hj=>by rw[ai.aF,aq hj,ai.aF,aq hj]) rfl (F.append_right _) (by simp[G,aT.kv]) (by rw[ai.aF,aK rfl]) (λj hj=>by rw[ai.aF,aq hj]) rfl;simp only[aE,B,hg,u,m,aes,bP]
  cases he
 case delete d N k=>
  simp only[aE]at he;split at he;·cases he
  rename_i m;simp only[B,I,o]at he;split at he;·rename_i r C;obtain⟨h1,h2⟩:=g C;obtain⟨rfl,rfl⟩:=he;cases r with|some y=>obtain⟨i,u,K,_,f4⟩:=DJ (v:=gv aa k) h2 0;refine l (esy:=pN b i) (es1:=mN d (gv aa k) D) (c:=a) (n p t (v:=.alR) (H1:=(H.set id (.map b a)).set id (.map (pN b i) a)) ?_) (by rw[ai.aF,aK rfl]) (λj hj=>by rw[ai.aF,aq hj,ai.aF,aq hj]) rfl (LJ d _ F) (by rw[f4];exact DI G) (by rw[ai.aF,aK rfl]) (λj hj=>by rw[ai.aF,aq hj]) rfl;simp only[aE,B,hg,u,m,aes,bP,akh]|none=>obtain⟨_,K,u⟩:=zE (v:=gv aa k) h2;refine l (esy:=b) (es1:=mN d (gv aa k) D) (c:=a) (n p t (v:=.alR) (H1:=(H.set id (.map b a)).set id (.map b a)) ?_) (by rw[ai.aF,aK rfl]) (λj hj=>by rw[ai.aF,aq hj,ai.aF,aq hj]) rfl (LJ d _ F) (by rw[<-DI G,K]) (by rw[ai.aF,aK rfl]) (λj hj=>by rw[ai.aF,aq hj]) rfl;simp only[aE,B,hg,u,m,aes,bP]
  cases he
end
section
variable{P:Program}{f:cU}{ρ:aP}{H H':ai}{w:World}{nt:Nat}{aa:ap AV}{a:Act}{o:Oper}{ao:bW}{v:AV}
theorem Tm(h:ef P f ρ H w nt aa a){t:TypeId}{m k:Operand}{ok:Bool}(D:o.op=.lookup t m k ok)(g:bU P nt o=some ao)(S:xC aa H ao)(he:aE ao aa H=some (v,H')):bE P f ρ w (execOp a.eval o) v H':=by
 simp only[bU,D,ae5,aed]at g;obtain⟨d,hd,g⟩:=g;split at g
 .rename_i W e;simp only[aed,ajB,adG]at g;obtain⟨kd,n,z,T,X,h1,N,h2,rfl⟩:=g;obtain⟨zv,B,C,V⟩:=uH T;have E:=h.gv h1;have F:=h.gv h2;simp only[aE]at he;split at he;·cases he
  rename_i r;have r:jA kd (gv aa N)=true:=by simpa using r
  have s:=λem w=>DG n r F em (P:=P) w;have l:∀{c:Value},VR ρ z c->VR ρ (if ok=true then .tuple [z,.bool false]else z) (if ok=true then .tuple #[c,.bool false]else c):=by
   intro c g;cases ok;·exact g
   simp[VR,bj,g]
  have u:∀{x:AV}{c:Value},VR ρ x c->VR ρ (if ok=true then .tuple [x,.bool true]else x) (if ok=true then .tuple #[c,.bool true]else c):=by
   intro x c g;cases ok;·exact g
   simp[VR,bj,g]
  split at he
  .rename_i G;simp only[adG,aj1]at he;obtain⟨rfl,rfl⟩:=he;rw[G]at E;have J:=E.uG;obtain⟨q,y,A⟩:=uI (P:=P) n F w (es:=[]) (bx:=[]) (by simp[cr]) (r:=none) rfl;have K:q=none:=by cases q<;>simp_all[FR]
   subst K;refine bE.val (c:=if ok=true then .tuple #[zv,.bool false]else zv) (w':=w) ?_ (dp.bX h.I (l (C ρ)));simp only[execOp,D,Instr.lookup,Sem.run_bind,b8 hd,Result.andThen_ok,J,Sem.run_pure,s,y,B]
  .rename_i id G;rw[G]at E;obtain⟨b,hb,J⟩:=E.po;split at he
   .rename_i es O L;obtain⟨bx,Q,R⟩:=rP h.I L hb;split at he
    .rename_i i x M;simp only[adG,aj1]at he;obtain⟨rfl,rfl⟩:=he;obtain⟨q,y,A⟩:=uI (P:=P) n F w R M;obtain⟨⟨j,c⟩,rfl⟩:∃p,q=some p:=by cases q with|none=>simp[FR]at A|some p=>exact⟨p,rfl⟩
     simp only[FR]at A;refine bE.val (c:=if ok=true then .tuple #[c,.bool true]else c) (w':=w) ?_ (dp.bX h.I (u A.2.1));simp only[execOp,D,Instr.lookup,Sem.run_bind,b8 hd,Result.andThen_ok,J,Sem.run_pure,s,y,oP Q]
    .rename_i M;simp only[adG,aj1]at he;obtain⟨rfl,rfl⟩:=he;obtain⟨q,y,A⟩:=uI (P:=P) n F w R M;have K:q=none:=by cases q<;>simp_all[FR]
     subst K;refine bE.val (c:=if ok=true then .tuple #[zv,.bool false]else zv) (w':=w) ?_ (dp.bX h.I (l (C ρ)));simp only[execOp,D,Instr.lookup,Sem.run_bind,b8 hd,Result.andThen_ok,J,Sem.run_pure,s,y,oP Q,B]
    cases he
   .rename_i es L;exact absurd L (S _ _ _ rfl G)
   cases he
  cases he
 grind
theorem Tn(h:ef P f ρ H w nt aa a){t:TypeId}{m k:Operand}{ok:Bool}(b:o.op=.lookup t m k ok)(c:bU P nt o=some ao)(he:aE ao aa H=some (v,H')):bE P f ρ w (execOp a.eval o) v H':=GQ (λd e he=>Tm ⟨h.E,d⟩ b c e he) h.I he
theorem bE.skip{s:Sem Next}{w':World}(h:s.run P w=.ok .skip w')(a:dp P f ρ w v H' undef w'):bE P f ρ w s v H':=⟨undef,w',.inr ⟨h,rfl⟩,a⟩
theorem GR{n i:Nat}{x:AV}{a:Option (Nat×Value)}(h:FR ρ n (some (i,x)) a):∃c,a=some (i,c)/\VR ρ x c/\i<n:=by cases a with|none=>trivial|some p=>obtain⟨j,c⟩:=p;obtain⟨rfl,h2,h3⟩:=h;grind
theorem GS{n:Nat}{a:Option (Nat×Value)}(h:FR ρ n none a):a=none:=by grind[FR]
theorem To(h:ef P f ρ H w nt aa a){t:TypeId}{m k x:Operand}(n:o.op=.mapUpdate t m k x\/o.op=.insert t m k x)(p:bU P nt o=some ao)(W:xC aa H ao)(he:aE ao aa H=some (v,H')):bE P f ρ w (execOp a.eval o) v H':=by
 have N:∃d,iz P t=some d/\∃E e,d=.map E e/\∃kd,sO P E=some kd/\∃y,hZ P nt m=some y/\∃j,hZ P nt k=some j/\∃q,hZ P nt x=some q/\ao=.jy kd y j q:=by rcases n with n|n<;>simp only[bU,n,ae5,aed]at p<;>obtain⟨d,hd,p⟩:=p<;>refine⟨d,hd,?_⟩<;>split at p<;>(try(cases p;done))<;>simp only[aed,ajB,adG]at p<;>obtain⟨kd,l,y,h1,j,h2,q,h3,X⟩:=p<;>exact⟨_,_,rfl,kd,l,y,h1,j,h2,q,h3,X.symm⟩
 obtain⟨d,hd,E,e,rfl,kd,l,y,h1,j,h2,q,h3,rfl⟩:=N;have A:(execOp a.eval o)=(do Instr.mapUpdate t (a.eval m) (a.eval k) (a.eval x);pure .skip):=by rcases n with n|n<;>simp only[execOp,n]
 have Q:=h.gv h1;have u:=h.gv h2;have R:=h.gv h3;simp only[aE]at he;split at he;·grind
 rename_i s;have s:jA kd (gv aa j)=true:=by simpa using s
 have B:=λem w=>DG l s u em (P:=P) w;split at he
 .rename_i id S;rw[S]at Q;obtain⟨b,hb,T⟩:=Q.po;split at he
  .rename_i es g r;obtain⟨bx,D,z⟩:=rP h.I r hb;split at he
   .rename_i i Y F;split at he;case isFalse=>grind
    rename_i O;obtain⟨rfl,rfl⟩:=he;obtain⟨Z,G,J⟩:=uI (P:=P) l u w z F;obtain⟨c,rfl,f3,f4⟩:=GR J;obtain⟨ce,V,q2⟩:=GL l u 0 i Y z (by grind) O;obtain⟨w1,r1,r2,r3,r4,r5⟩:=LD (P:=P) (a.eval k) w;obtain⟨w',K,L,M⟩:=map_set (P:=P) h.I r hb (es':=kY (gv aa q) (gv aa j) es i) (ces':=bx.modify i λe=>{e with key:=a.eval k,val:=a.eval x}) (by simp[u,R,z,Array.toList_modify,cr.kY]) g (ke.modify (xB h.I r hb D) i (λ_=>rfl)) r2 r3 r4 r5;refine bE.skip (w':=w') ?_ ⟨ρ,cL.refl ρ,VR.alR ρ,L,M⟩;have C:((bx[i]?).map (·.key)).getD (a.eval k)=a.eval k:=by rw[alc]at V;rw[V];simpa using q2
    simp only[A,Instr.mapUpdate,Sem.run_bind,b8 hd,Result.andThen_ok,T,Sem.run_pure,B,G,oP D,C,r1,K]
   .rename_i F;obtain⟨rfl,rfl⟩:=he;obtain⟨Z,G,J⟩:=uI (P:=P) l u w z F;have:=GS J;subst this;obtain⟨w',K,L,M⟩:=map_set (P:=P) h.I r hb (es':=es++[⟨gv aa j,gv aa q,g⟩]) (ces':=bx.push {key:=a.eval k,val:=a.eval x,born:=g}) (by simp[u,R,z,Array.toList_push,cr.push]) (g+1) (ke.push (xB h.I r hb D) rfl) (w1:=w) rfl rfl rfl rfl;refine bE.skip (w':=w') ?_ ⟨ρ,cL.refl ρ,VR.alR ρ,L,M⟩;simp only[A,Instr.mapUpdate,Sem.run_bind,b8 hd,Result.andThen_ok,T,Sem.run_pure,B,G,oP D,K]
   grind
  .rename_i es r;exact absurd r (W _ _ _ rfl S)
  grind
 grind
theorem LM(h:ef P f ρ H w nt aa a){t:TypeId}{m k x:Operand}(b:o.op=.mapUpdate t m k x\/o.op=.insert t m k x)(c:bU P nt o=some ao)(he:aE ao aa H=some (v,H')):bE P f ρ w (execOp a.eval o) v H':=GQ (λd e he=>To ⟨h.E,d⟩ b c e he) h.I he
theorem LN{d:eE}{k:AV}:∀(es:List aT)(j i:Nat)(v:AV),findKey d k es j=some (some (i,v))->j<=i
 |[],j,i,v,h=>by simp_all[findKey]
 |e::es,j,i,v,h=>by
  simp only[findKey]at h;split at h;·grind
  .have:=LN es _ _ _ h;omega
  grind
theorem cr.LP{d:eE}{k:AV}{kv:Value}(b:VR ρ k kv):∀{es:List aT}{bx:List MapEntry}(i0 i:Nat)(x:AV),cr ρ es bx->findKey d k es i0=some (some (i0+i,x))->cr ρ (Go.am.kY x k es i) (bx.modify i λe=>{e with key:=kv})
 |[],_,i0,i,x,_,a=>by simp[findKey]at a
 |e::es,c::bx,i0,i,x,h,a=>by
  simp only[findKey]at a;cases i with
  |zero=>
   split at a;·simp only[adG,aj1]at a;exact⟨b,by rw[<-a.2];exact h.2.1,h.2.2.1,h.2.2.2⟩
   .have:=LN es _ _ _ a;omega
   cases a
  |succ i=>
   refine⟨h.1,h.2.1,h.2.2.1,?_⟩;split at a;·simp only[adG,aj1]at a;omega
   .exact cr.LP b (i0+1) i x h.2.2.2 (by rw[a,show i0+1+i=i0+(i+1)by omega])
   cases a
 |_::_,[],_,_,_,h,_=>by simp[cr]at h
theorem Tp(h:ef P f ρ H w nt aa a){t:TypeId}{m k:Operand}(E:o.op=.mapEntry t m k)(l:bU P nt o=some ao)(he:aE ao aa H=some (v,H')):bE P f ρ w (execOp a.eval o) v H':=by
 simp only[bU,E,ae5,aed]at l;obtain⟨d,hd,l⟩:=l;split at l
 .simp only[aed,ajB,adG]at l;obtain⟨kd,j,z,V,om,h1,n,h2,rfl⟩:=l;obtain⟨zv,N,A,ag⟩:=uH V;have Q:=h.gv h1;have r:=h.gv h2;simp only[aE]at he;split at he;·cases he
  rename_i p;have p:jA kd (gv aa n)=true:=by simpa using p
  have B:=λem w=>DG j p r em (P:=P) w;split at he
  .rename_i id W;rw[W]at Q;obtain⟨b,hb,R⟩:=Q.po;split at he
   .rename_i es g u;obtain⟨bx,D,s⟩:=rP h.I u hb;split at he
    .rename_i i F y;split at he;case isFalse=>cases he
     rename_i O;obtain⟨rfl,rfl⟩:=he;obtain⟨X,G,J⟩:=uI (P:=P) j r w s y;obtain⟨c,rfl,Y,Z⟩:=GR J;obtain⟨ce,S,q2⟩:=GL j r 0 i F s (by rw[y,akh]) O;obtain⟨w1,r1,r2,r3,r4,r5⟩:=LD (P:=P) (a.eval k) w;rw[alc]at S;obtain⟨av,T,q4⟩:=cr.vK i Z s;rw[alc]at T;obtain⟨w',K,L,M⟩:=map_set (P:=P) h.I u hb (es':=kY F (gv aa n) es i) (ces':=bx.modify i λe=>{e with key:=a.eval k}) (by rw[Array.toList_modify];exact cr.LP r 0 i F s (by rw[y,akh])) g (ke.modify (xB h.I u hb D) i (λ_=>rfl)) r2 r3 r4 r5;refine bE.val (c:=.tuple #[c,goInt (vK es i)]) (w':=w') ?_ ⟨ρ,cL.refl ρ,?_,L,M⟩
     .have C:((bx[i]?).map (·.key)).getD (a.eval k)=a.eval k:=by rw[S];simpa using q2
      have q:((bx[i]?).map (λx=>(x.born:Int))).getD 0=(vK es i:Int):=by rw[T];simp[q4]
      simp only[execOp,E,Instr.mapEntry,Sem.run_bind,b8 hd,Result.andThen_ok,R,Sem.run_pure,B,G,oP D,C,r1,K,q]
     simp only[VR,bj];exact⟨Y,VR.goInt ρ _,trivial⟩
    .rename_i y;obtain⟨rfl,rfl⟩:=he;obtain⟨X,G,J⟩:=uI (P:=P) j r w s y;have:=GS J;subst this;obtain⟨w',K,L,M⟩:=map_set (P:=P) h.I u hb (es':=es++[⟨gv aa n,z,g⟩]) (ces':=bx.push {key:=a.eval k,val:=zv,born:=g}) (by rw[Array.toList_push];exact cr.push g r (A ρ) s) (g+1) (ke.push (xB h.I u hb D) rfl) (w1:=w) rfl rfl rfl rfl;refine bE.val (c:=.tuple #[zv,goInt g]) (w':=w') ?_ ⟨ρ,cL.refl ρ,?_,L,M⟩;·simp only[execOp,E,Instr.mapEntry,Sem.run_bind,b8 hd,Result.andThen_ok,R,Sem.run_pure,B,G,oP D,N,K]
     exact⟨A ρ,VR.goInt ρ _,trivial⟩
    cases he
   cases he
  cases he
 cases l
theorem Tq(h:ef P f ρ H w nt aa a){t:TypeId}{m s x:Operand}(j:o.op=.entryStore t m s x)(n:bU P nt o=some ao)(he:aE ao aa H=some (v,H')):bE P f ρ w (execOp a.eval o) v H':=by
 simp only[bU,j,ae5,aed,ajB,adG]at n;obtain⟨G,h1,os,h2,y,h3,rfl⟩:=n;have p:=h.gv h1;have q:=h.gv h2;have z:=h.gv h3;simp only[aE]at he;split at he
 .rename_i id k b A hs;rw[A]at p;rw[hs]at q;obtain⟨J,hb,B⟩:=p.po;obtain⟨K,_,hi⟩:=q.jQ;split at he
  .rename_i es c g;obtain⟨bx,r,u⟩:=rP h.I g hb;split at he
   .rename_i i C;obtain⟨rfl,rfl⟩:=he;obtain⟨_,d,_⟩:=cr.qE b 0 i u C;obtain⟨w',D,E,F⟩:=map_set (P:=P) h.I g hb (es':=es.modify i λe=>{e with val:=gv aa y}) (ces':=bx.modify i λe=>{e with val:=a.eval x}) (by simp[z,u,Array.toList_modify,cr.LC]) c (ke.modify (xB h.I g hb r) i (λ_=>rfl)) (w1:=w) rfl rfl rfl rfl;refine bE.skip (w':=w') ?_ ⟨ρ,cL.refl ρ,VR.alR ρ,E,F⟩;have d:bx.findIdx? (λe=>(e.born:Int)==(b:Int))=some i:=by rw[alJ]at d;obtain⟨l⟩:=bx;simpa using d
    simp only[execOp,j,Instr.entryStore,Sem.run_bind,B,Sem.run_pure,Result.andThen_ok,oP r,hi,asInt,asIntOf,aj5,d,D]
   grind
  grind
 grind
theorem Tr(h:ef P f ρ H w nt aa a){c:Call}(O:o.op=.call c)(hb:c.callee=.builtin .delete)(r:bU P nt o=some ao)(Q:xC aa H ao)(he:aE ao aa H=some (v,H')):bE P f ρ w (execOp a.eval o) v H':=by
 simp only[bU,O,hb,ae5,aed]at r;obtain⟨t,B,d,hd,r⟩:=r;obtain⟨A,k⟩:=vP (P:=P) (a:=a) O hb w;split at r
 .simp only[aed,ajB,adG]at r;obtain⟨kd,l,V,⟨R,L,h1⟩,M,⟨S,N,h2⟩,rfl⟩:=r;have s:=h.gv h1;have C:=h.gv h2;have m:(c.args.map a.eval)[0]?=some (a.eval R):=by simp[L]
  have n:(c.args.map a.eval)[1]?=some (a.eval S):=by simp[N]
  simp only[aE]at he;split at he;·grind
  rename_i p;have p:jA kd (gv aa M)=true:=by simpa using p
  have q:=λem w=>DG l p C em (P:=P) w;split at he;·rename_i u;obtain⟨rfl,rfl⟩:=he;rw[u]at s;have x:=s.uG;refine bE.val (c:=.tuple #[]) (w':=w) ?_ (dp.bX h.I (VR.alR ρ));rw[k];simp only[builtin,Builtin.delete_,B,m,n,Sem.run_bind,b8 hd,Result.andThen_ok,x,q,Sem.run_pure]
  .rename_i id u;rw[u]at s;obtain⟨b,e,x⟩:=s.po;split at he
   .rename_i es g j;obtain⟨bx,y,z⟩:=rP h.I j e;split at he;·rename_i i W D;obtain⟨rfl,rfl⟩:=he;obtain⟨T,E,F⟩:=uI (P:=P) l C w z D;obtain⟨X,rfl,Y,Z⟩:=GR F;obtain⟨w',G,J,K⟩:=map_set (P:=P) h.I j e (es':=pN es i) (ces':=bx.eraseIdxIfInBounds i) (by simp[z,Array.toList_eraseIdxIfInBounds,cr.erase]) g (ke.erase (xB h.I j e y) i) (w1:=w) rfl rfl rfl rfl;refine bE.val (c:=.tuple #[]) (w':=w') ?_ ⟨ρ,cL.refl ρ,VR.alR ρ,J,K⟩;rw[k];simp only[builtin,Builtin.delete_,B,m,n,Sem.run_bind,b8 hd,Result.andThen_ok,x,q,Sem.run_pure,oP y,E,G]
    .rename_i D;obtain⟨rfl,rfl⟩:=he;obtain⟨T,E,F⟩:=uI (P:=P) l C w z D;have:=GS F;subst this;obtain⟨w',G,J,K⟩:=map_set (P:=P) h.I j e (es':=es) (ces':=bx) z g (xB h.I j e y) (w1:=w) rfl rfl rfl rfl;refine bE.val (c:=.tuple #[]) (w':=w') ?_ ⟨ρ,cL.refl ρ,VR.alR ρ,J,K⟩;rw[k];simp only[builtin,Builtin.delete_,B,m,n,Sem.run_bind,b8 hd,Result.andThen_ok,x,q,Sem.run_pure,oP y,E,G]
    grind
   .rename_i es j;exact absurd j (Q _ _ _ rfl u)
   grind
  grind
 grind
theorem Ts(h:ef P f ρ H w nt aa a){c:Call}(b:o.op=.call c)(hb:c.callee=.builtin .delete)(d:bU P nt o=some ao)(he:aE ao aa H=some (v,H')):bE P f ρ w (execOp a.eval o) v H':=GQ (λe g he=>Tr ⟨h.E,e⟩ b hb d g he) h.I he
theorem Tt(h:ef P f ρ H w nt aa a){c:Call}(s:o.op=.call c)(hb:c.callee=.builtin .clear){x:aJ}(E:ao=.ze x)(g:bU P nt o=some ao)(he:aE ao aa H=some (v,H')):bE P f ρ w (execOp a.eval o) v H':=by
 simp only[bU,s,hb,ae5,aed]at g;obtain⟨t,u,d,hd,g⟩:=g;obtain⟨n,i⟩:=vP (P:=P) (a:=a) s hb w;split at g;·simp_all[aed,ajB,adG]
 .simp only[aed,ajB,adG]at g;obtain⟨od,⟨z,r,l⟩,rfl⟩:=g;have m:=h.gv l;have j:(c.args.map a.eval)[0]?=some (a.eval z):=by simp[r]
  simp only[aE]at he;split at he;·rename_i p;obtain⟨rfl,rfl⟩:=he;rw[p]at m;have q:=m.uG;refine bE.val (c:=.tuple #[]) (w':=w) ?_ (dp.bX h.I (VR.alR ρ));rw[i];simp[builtin,Builtin.clear_,u,j,b8 hd,q]
  .rename_i id p;rw[p]at m;obtain⟨b,k,q⟩:=m.po;split at he;·rename_i es e y;obtain⟨rfl,rfl⟩:=he;obtain⟨bx,A,F⟩:=rP h.I y k;obtain⟨w',B,C,D⟩:=map_set (P:=P) h.I y k (es':=[]) (ces':= #[]) (by trivial) e ke.clear (w1:=w) rfl rfl rfl rfl;refine bE.val (c:=.tuple #[]) (w':=w') ?_ ⟨ρ,cL.refl ρ,VR.alR ρ,C,D⟩;rw[i];simp only[builtin,Builtin.clear_,u,j,Sem.run_bind,b8 hd,Result.andThen_ok,q,oP A,B,Sem.run_pure]
   grind
  grind
 grind
end
section
variable{P:Program}{g:cU}{ρ:aP}{H H':ai}{w:World}{nt:Nat}{aa:ap AV}{a:Act}{o:Oper}{ao:bW}{v:AV}
theorem Tu(h:ef P g ρ H w nt aa a){t:TypeId}{x:Operand}(u:o.op=.range t x)(f:bU P nt o=some ao)(he:aE ao aa H=some (v,H')):bE P g ρ w (execOp a.eval o) v H':=by
 simp only[bU,u,ae5,aed]at f;obtain⟨d,hd,f⟩:=f;split at f
 .simp only[aed,ajB,adG]at f;obtain⟨z,h1,rfl⟩:=f;have i:=h.gv h1;simp only[aE]at he;split at he
  .rename_i s k;simp only[adG,aj1]at he;obtain⟨rfl,rfl⟩:=he;rw[k]at i;obtain⟨t',A,l⟩:=i.nE;obtain⟨n,p,q⟩:=h.I.alloc (o:=.pf s s 0) (ob:=.stringIter t' 0) (0,0) (by simp[gS]) aB rfl (by simp only[OR];exact⟨trivial,trivial,A,aB⟩);refine bE.val (c:=.pointer (some ⟨w.heap.size,0,none⟩)) (w':={w with heap:=w.heap.push (.stringIter t' 0)}) ?_ ⟨_,n,?_,p,q⟩;·simp only[execOp,u,Instr.range,Sem.run_bind,b8 hd,Result.andThen_ok,l,Sem.run_pure,run_newObj]
   simp only[VR];exact⟨_,_,aP.fP ..,aB⟩
  cases he
 .simp only[aed,ajB,adG]at f;obtain⟨z,h1,rfl⟩:=f;have i:=h.gv h1;simp only[aE]at he;split at he
  .rename_i k;simp only[adG,aj1]at he;obtain⟨rfl,rfl⟩:=he;rw[k]at i;have l:=i.uG;obtain⟨n,p,q⟩:=h.I.alloc (o:=.mapIter none 0 [] 0) (ob:=.mapIter none 0 #[] 0) (0,0) (by simp[gS]) aB rfl (by simp only[OR];exact⟨trivial,by simp[pQ],by trivial,by trivial,by trivial⟩);refine bE.val (c:=.pointer (some ⟨w.heap.size,0,none⟩)) (w':={w with heap:=w.heap.push (.mapIter none 0 #[] 0)}) ?_ ⟨_,n,?_,p,q⟩;·simp only[execOp,u,Instr.range,Sem.run_bind,b8 hd,Result.andThen_ok,l,Sem.run_pure,run_newObj]
   simp only[VR];exact⟨_,_,aP.fP ..,aB⟩
  .rename_i m k;rw[k]at i;obtain⟨b,hb,l⟩:=i.po;split at he
   .rename_i es e B;simp only[adG,aj1]at he;obtain⟨rfl,rfl⟩:=he;obtain⟨bx,C,E⟩:=rP h.I B hb;have r:cL ρ (ρ.add H.next w.heap.size 0 (0,0)):=aP.sR _ _ _ (h.I.eo _ (afb _)).2 (λj c y D f=>by have:=h.I.fH j c y D;omega);obtain⟨n,p,q⟩:=h.I.alloc (o:=.mapIter (some m) e [] e) (ob:=.mapIter (some b) e #[] e) (0,0) (by simp[gS]) aB rfl (by simp only[OR];exact⟨trivial,by simp only[pQ];exact(r _ _ hb).1,by trivial,by trivial,by trivial⟩);refine bE.val (c:=.pointer (some ⟨w.heap.size,0,none⟩)) (w':={w with heap:=w.heap.push (.mapIter (some b) e #[] e)}) ?_ ⟨_,n,?_,p,q⟩;·simp only[execOp,u,Instr.range,Sem.run_bind,b8 hd,Result.andThen_ok,l,Sem.run_pure,run_newObj,oP C]
    simp only[VR];exact⟨_,_,aP.fP ..,aB⟩
   cases he
  cases he
 cases f
theorem zF{b:Nat}{a:Obj}(h:w.heap[b]?=some a)(d:∀c e f,a≠.cells c e f):(getObj b).run P w=.ok a w:=by cases a with|cells c e f=>exact absurd rfl (d c e f)|_=>simp only[getObj,Sem.run,h]
theorem Tv(h:ef P g ρ H w nt aa a){G:Operand}{e:Bool}(y:o.op=.next G e)(u:bU P nt o=some ao)(he:aE ao aa H=some (v,H')):bE P g ρ w (execOp a.eval o) v H':=by
 cases e with
 |false=>simp only[bU,y,aes,bP,ae5,aed,ajB,adG]at u;obtain⟨J,h1,rfl⟩:=u;simp[aE]at he
 |true=>
  simp only[bU,y,bq,ae5,aed,ajB,adG]at u;obtain⟨J,h1,rfl⟩:=u;have E:=h.gv h1;simp only[aE]at he;split at he
  .rename_i id K;rw[K]at E;obtain⟨b,z,hb,D⟩:=E.oO;split at he
   .rename_i s F M hi;have l:H.get id≠.none:=by rw[hi];simp
    obtain⟨O,Q,L,B,k,m,n⟩:=h.I.aH l;rw[hb]at B;injection B with B;injection B with e1 e2;subst e1;subst e2;rw[hi]at n;cases L<;>simp only[OR]at n;rename_i bs p;obtain⟨rfl,rfl,cA,f⟩:=n;have i:(getObj b).run P w=.ok (.stringIter bs p) w:=zF m (λ_ _ _=>by simp);have N:bs.size=s.length:=by rw[<-cA,akg,akG];rfl
    split at he
    .simp only[adG,aj1]at he;obtain⟨rfl,rfl⟩:=he;have r:¬p<bs.size:=by have:=List.drop_eq_nil_iff.1 f.symm;omega
     refine bE.val (c:=.tuple #[.bool false]) (w':=w) ?_ (dp.bX h.I (by simp[VR,bj]));simp only[execOp,y,Instr.next,D,alG,Sem.run_bind,i,Result.andThen_ok,r,bP,Sem.run_pure]
    rename_i c t;split at he
    .rename_i k;simp only[adG,aj1]at he;obtain⟨rfl,rfl⟩:=he;have k:c<128:=ako (Nat.lt_succ_self c) (akc k);have q:s[p]?=some c:=by
      have:(s.drop p)[0]?=some c:=by rw[<-f];rfl
      rw[List.getElem?_drop]at this;simpa using this
     have C:p<bs.size:=by have:=(akR.1 q).1;omega
     have A:p<bs.data.size:=C;have u:(bs.data[p]).toNat=c:=by rw[<-cA,aks,alc,getElem?_pos bs.data p A]at q;simpa using q
     have j:Utf8.decode bs p=(c,1):=by
      have hg:(bs.get! (p+0)).toNat=c:=by rw[alG,ByteArray.get!];rw[getElem!_pos bs.data p A];exact u
      simp only[Utf8.decode,hg,show c<0x80 from k,bq]
     have hu:=h.I.sS (i:=id) (o':=.pf s t (p+1)) (ob':=.stringIter bs (p+1)) l (by rw[hi];rfl) hb rfl (by simp only[OR];refine⟨trivial,trivial,cA,?_⟩;rw[<-List.drop_drop,<-f];rfl) (by simp[gS]) (w':={w with heap:=w.heap.setIfInBounds b (.stringIter bs (p+1))}) rfl rfl rfl rfl;rw[hi]at hu;refine bE.val (c:=.tuple #[.bool true,goInt p,.int .i32 c]) (w':={w with heap:=w.heap.setIfInBounds b (.stringIter bs (p+1))}) ?_ ⟨ρ,cL.refl ρ,?_,hu.1,hu.2⟩;·simp only[execOp,y,Instr.next,D,alG,Sem.run_bind,i,Result.andThen_ok,C,bq,j,BB w m (λ_ _ _=>by simp),Sem.run_pure]
     simp only[VR,bj];exact⟨trivial,VR.goInt ρ p,by simp[kc],trivial⟩
    simp only[adG,aj1]at he;obtain⟨rfl,rfl⟩:=he;have C:p<bs.size:=by
     have:(s.drop p)[0]?=some c:=by rw[<-f];rfl
     rw[List.getElem?_drop]at this;have:=(akR.1 (by simpa using this)).1;omega
    have j:Utf8.decode bs p=u8 s p:=by
     have hd:(s.map UInt8.ofNat).toArray=bs.data:=by rw[<-cA,alx,show UInt8.ofNat∘alv=_root_.id from funext λ(x:UInt8)=>by show UInt8.ofNat x.toNat=x;simp,List.map_id,Array.toArray_toList]
     unfold u8;rw[hd]
    generalize u8 s p=d at*;have hu:=h.I.sS (i:=id) (o':=.pf s (s.drop (p+d.2)) (p+d.2)) (ob':=.stringIter bs (p+d.2)) l (by rw[hi];rfl) hb rfl (by simp only[OR];exact⟨trivial,trivial,cA,trivial⟩) (by simp[gS]) (w':={w with heap:=w.heap.setIfInBounds b (.stringIter bs (p+d.2))}) rfl rfl rfl rfl;rw[hi]at hu;refine bE.val (c:=.tuple #[.bool true,goInt p,.int .i32 d.1]) (w':={w with heap:=w.heap.setIfInBounds b (.stringIter bs (p+d.2))}) ?_ ⟨ρ,cL.refl ρ,?_,hu.1,hu.2⟩;·simp only[execOp,y,Instr.next,D,alG,Sem.run_bind,i,Result.andThen_ok,C,bq,j,BB w m (λ_ _ _=>by simp),Sem.run_pure]
    simp only[VR,bj];exact⟨trivial,VR.goInt ρ p,by simp[kc],trivial⟩
   cases he
  cases he
theorem Tw(h:ef P g ρ H w nt aa a){G:Operand}(B:o.op=.entry G)(C:bU P nt o=some ao)(he:aE ao aa H=some (v,H')):bE P g ρ w (execOp a.eval o) v H':=by
 simp only[bU,B,ae5,aed,ajB,adG]at C;obtain⟨X,h1,rfl⟩:=C;have D:=h.gv h1;simp only[aE]at he;split at he
 .rename_i id J;rw[J]at D;obtain⟨b,z,hb,K⟩:=D.oO;split at he
  .rename_i m y seen F hi;have t:H.get id≠.none:=by rw[hi];simp
   obtain⟨Y,Z,L,q,W,u,c⟩:=h.I.aH t;rw[hb]at q;injection q with q;injection q with e1 e2;subst e1;subst e2;rw[hi]at c;cases L<;>simp only[OR]at c;rename_i E M s t';obtain⟨rfl,d,rfl,j,rfl⟩:=c;have p:(getObj b).run P w=.ok (.mapIter E M s t') w:=zF u (λ_ _ _=>by simp);cases E with
   |none=>simp[pQ]at d
   |some mb=>
    simp only[pQ]at d;split at he
    .rename_i bn es A hl N;split at he
     .rename_i f;have f:=aj4 f;subst f;obtain⟨bx,O,Q⟩:=rP h.I N d;split at he
      .rename_i i R;obtain⟨_,_,e0,c0,r,S,T,V⟩:=cr.qE bn 0 i Q R;split at he
       .rename_i e1 x;simp only[adG,aj1]at he;obtain⟨rfl,rfl⟩:=he;rw[alJ,x]at r;injection r with r;subst r;have k:s.back?=some bn:=by rw[<-j]at hl;obtain⟨l⟩:=s;simpa using hl
        have n:bx.find? (λe=>e.born==bn)=some c0:=by obtain⟨l⟩:=bx;simpa using S
        refine bE.val (c:=.tuple #[c0.key,c0.val]) (w':=w) ?_ (dp.bX h.I (by simp only[VR,bj];exact⟨T,V,trivial⟩));simp[execOp,B,Instr.entry,K,p,k,oP O,n]
       cases he
      cases he
     cases he
    cases he
  cases he
 cases he
theorem cr.filter{p:aT->Bool}{q:MapEntry->Bool}(a:∀(e:aT)(c:MapEntry),e.born=c.born->p e=q c):∀{es:List aT}{bx:List MapEntry},cr ρ es bx->cr ρ (es.filter p) (bx.filter q)
 |[],[],_=>by simp[cr]
 |e::es,c::bx,h=>by
  simp only[cr]at h;simp only[List.filter_cons,a e c h.2.2.1];split;·simp only[cr];exact⟨h.1,h.2.1,h.2.2.1,cr.filter a h.2.2.2⟩
  exact cr.filter a h.2.2.2
 |[],_::_,h=>by simp[cr]at h
 |_::_,[],h=>by simp[cr]at h
theorem cr.get:∀{es:List aT}{bx:List MapEntry},cr ρ es bx->∀(i:Nat)(c:MapEntry),bx[i]?=some c->∃e:aT,es[i]?=some e/\VR ρ e.key c.key/\VR ρ e.val c.val/\e.born=c.born|[],[],_,i,c,h=>by simp at h|e::es,c::bx,h,0,b,a=>by simp only[cr]at h;simp at a;subst a;exact⟨e,aB,h.1,h.2.1,h.2.2.1⟩|e::es,c::bx,h,i+1,b,a=>by simp only[cr]at h;simp at a;simpa using cr.get h.2.2.2 i b a|[],_::_,h,_,_,_=>by simp[cr]at h|_::_,[],h,_,_,_=>by simp[cr]at h
theorem cr.append:∀{es:List aT}{bx:List MapEntry}{b:List aT}{a:List MapEntry},cr ρ es bx->cr ρ b a->cr ρ (es++b) (bx++a)|[],[],_,_,_,h=>by simpa using h|e::es,c::bx,_,_,h,d=>by simp only[cr]at h;simp only[akV,cr];exact⟨h.1,h.2.1,h.2.2.1,cr.append h.2.2.2 d⟩|[],_::_,_,_,h,_=>by simp[cr]at h|_::_,[],_,_,h,_=>by simp[cr]at h
theorem cr.LQ(n:Nat):∀{es:List aT}{bx:List MapEntry},cr ρ es bx->es.all (λe=>ak2 n e.born)=bx.all (λe=>decide (e.born>=n))
 |[],[],_=>rfl
 |e::es,c::bx,h=>by
  simp only[cr]at h;simp only[List.all_cons,cr.LQ n h.2.2.2,h.2.2.1];congr 1;by_cases a:c.born>=n;·rw[decide_eq_true a,akB a]
  rw[decide_eq_false a];cases hb:ak2 n c.born with|false=>rfl|true=>exact absurd (akc hb) a
 |[],_::_,h=>by simp[cr]at h
 |_::_,[],h=>by simp[cr]at h
theorem LR(h:ef P g ρ H w nt aa a){it:aJ}(D:bU P nt o=some (.lU it)){cs:List (Option aT)}{V:Option aT->AV×ai}(he:ut H (gv aa it)=some (cs,V)):∃i c,i<cs.length/\cs[i]?=some c/\bE P g ρ w (execOp a.eval o) (V c).1 (V c).2:=by
 obtain⟨x,ho,hx⟩:∃x,o.op=.next x false/\hZ P nt x=some it:=by
  unfold bU at D;simp only[ae5,ajB]at D;split at D;all_goals(try(exfalso;(repeat'(first|(cases D;done)|(rw[aed]at D;obtain⟨_,_,D⟩:=D)|split at D));done))
  rename_i x s ho;cases s with|true=>simp only[bq,aed,adG,reduceCtorEq,and_false,exists_false]at D|false=>simp only[aes,bP,aed,adG,bW.lU.injEq]at D;obtain⟨y,h1,rfl⟩:=D;exact⟨x,ho,h1⟩
 have g1:=h.gv hx;unfold ut at he;split at he
 .rename_i id hv;rw[hv]at g1;obtain⟨b,z,hb,aw⟩:=g1.oO;split at he
  .rename_i hi;simp only[adG,aj1]at he;obtain⟨rfl,rfl⟩:=he;obtain⟨b',z',ob,M,a8,O,t⟩:=h.I.aH (i:=id) (by rw[hi];simp);rw[hb]at M;injection M with M;injection M with e1 e2;subst e1;subst e2;rw[hi]at t;cases ob<;>simp only[OR]at t;rename_i m' k p t';obtain⟨rfl,h1,_⟩:=t;have:m'=none:=by cases m'<;>simp[pQ]at h1;rfl
   subst this;refine⟨0,none,aB,rfl,bE.val (c:=.tuple #[.bool false]) (w':=w) ?_ (dp.bX h.I (by simp[VR,bj]))⟩;simp only[execOp,ho,Instr.next,aw,alG,Sem.run_bind,zF O (λ_ _ _=>by simp),Result.andThen_ok,Sem.run_pure]
  .rename_i m bd seen bv hi;split at he
   .rename_i es l hm;split at he;·cases he
    rename_i Y;simp only[adG,aj1]at he;obtain⟨rfl,rfl⟩:=he;obtain⟨b',z',ob,M,a8,O,t⟩:=h.I.aH (i:=id) (by rw[hi];simp);rw[hb]at M;injection M with M;injection M with e1 e2;subst e1;subst e2;rw[hi]at t;cases ob<;>simp only[OR]at t;rename_i m' k p t';obtain⟨rfl,h1,rfl,h3,rfl⟩:=t;obtain⟨E,rfl⟩:∃E,m'=some E:=by cases m' with|none=>simp[pQ]at h1|some E=>exact⟨E,rfl⟩
    have ax:ρ m=some (E,0):=h1;obtain⟨bx,k1,k2⟩:=rP h.I hm ax;have Z:∀n,p.contains n=seen.contains n:=λn=>by rw[<-h3,Array.contains_toList]
    have hl:=k2.filter (p:=λe=>!seen.contains e.born) (q:=λe=>!p.contains e.born) (λe c G=>by rw[G,Z]);have gE:=hl.filter (p:=λe=>akv e.born k) (q:=λe=>decide (e.born<k)) (λe c G=>by
     rw[G];by_cases q:c.born<k;·rw[decide_eq_true q];exact alN akY q
     rw[decide_eq_false q];cases hb:akv c.born k with|false=>rfl|true=>exact absurd (Eq.mp akY hb) q);have J:=hl.filter (p:=λe=>!akv e.born k) (q:=λe=>decide (e.born>=k)) (λe c G=>by
     rw[G];by_cases q:c.born<k;·rw[decide_eq_false af,show akv c.born k=true from alN akY q];rfl
     rw[decide_eq_true af];cases hb:akv c.born k with|false=>rfl|true=>exact absurd (Eq.mp akY hb) q);have d:=gE.append J;have Q:(!p.isEmpty&&!bx.isEmpty&&bx.all λe=>decide (e.born>=t'))=false:=by
     have e1:p.isEmpty=seen.isEmpty:=by rw[<-h3,Array.isEmpty_toList]
     have e2:bx.isEmpty=es.isEmpty:=by have hh:=cr.length k2;rw[<-Array.isEmpty_toList];cases a2:bx.toList<;>rw[a2]at hh<;>cases es<;>first|rfl|simp at hh
     have e3:=k2.LQ t';rw[e1,e2,<-Array.all_toList,<-e3];simpa using Y
    generalize a9:(es.filter λe=>!seen.contains e.born).filter (λe=>akv e.born k)=N at gE d⊢;generalize b0:(es.filter λe=>!seen.contains e.born).filter (λe=>!akv e.born k)=nA at J d⊢;generalize W:(bx.toList.filter λe=>!p.contains e.born).filter (λe=>decide (e.born<k))=F at gE d;generalize a':(bx.toList.filter λe=>!p.contains e.born).filter (λe=>decide (e.born>=k))=nL at J d;have B:N.isEmpty=F.isEmpty:=by have hh:=cr.length gE;clear a9 W gE d;cases N<;>cases F<;>first|rfl|simp at hh
    have a3:(N++nA).length=(F++nL).length:=cr.length d;let r:List (Option MapEntry):=(if F.isEmpty then[none]else[])++(F++nL).map some;have R:r.length=((if N.isEmpty then[none]else[])++(N++nA).map some:List (Option aT)).length:=by simp only[r,aj8,akg,B]at a3⊢;split<;>simp<;>omega
    have S:0<r.length:=by simp only[r,aj8,akg];cases F with|nil=>simp;omega|cons a b=>simp;omega
    have ba:∃(j:Nat)(A:World),j<r.length/\(A=w\/A=w.drew)/\(choose (Question.mapNext r.length)).run P w=.ok j A:=by
     by_cases hf:r.length<=1;·exact⟨0,w,S,Or.inl rfl,by simp[choose,Sem.run,Question.forced,hf]⟩
     exact⟨_,w.drew,Nat.mod_lt _ S,Or.inr rfl,by simp only[choose,Sem.run,Question.forced,decide_eq_true_eq,hf,bP,Question.cut];rfl⟩
    obtain⟨j,A,hj,ay,a4⟩:=ba;have T:A.heap=w.heap:=by rcases ay with rfl|rfl<;>rfl
    have a0:bz P g ρ H A:=h.I.zu T;have a1:eC g w A:=by rcases ay with rfl|rfl;exact eC.refl g _;exact(eC.refl g _).drew
    have K:((if(alu (λe:MapEntry=>decide (e.born<k)) (alu (λe:MapEntry=>!p.contains e.born) bx)).isEmpty=true then #[none]else #[])++Array.map some (alu (λe:MapEntry=>decide (e.born<k)) (alu (λe:MapEntry=>!p.contains e.born) bx)++alu (λe:MapEntry=>decide (e.born>=k)) (alu (λe:MapEntry=>!p.contains e.born) bx))).toList=r:=by
     simp only[r,Array.toList_append,Array.toList_map,Array.toList_filter,W,a'];congr 1;have:(alu (λe:MapEntry=>decide (e.born<k)) (alu (λe:MapEntry=>!p.contains e.born) bx)).isEmpty=F.isEmpty:=by rw[<-W,<-Array.toList_filter,<-Array.toList_filter,Array.isEmpty_toList]
     rw[this];split<;>rfl
    generalize ag:((if(alu (λe:MapEntry=>decide (e.born<k)) (alu (λe:MapEntry=>!p.contains e.born) bx)).isEmpty=true then #[none]else #[])++Array.map some (alu (λe:MapEntry=>decide (e.born<k)) (alu (λe:MapEntry=>!p.contains e.born) bx)++alu (λe:MapEntry=>decide (e.born>=k)) (alu (λe:MapEntry=>!p.contains e.born) bx)))=CA at K;have av:CA.size=r.length:=by rw[<-K,akG]
    have v:(execOp a.eval o).run P w=((match r[j]? with|some (some e)=>(do setObj b (.mapIter (some E) k (p.push e.born) l);pure (.value (.tuple #[.bool true,e.key,e.val])))|some none=>pure (.value (.tuple #[.bool false]))|none=>stuck "Next: no such candidate"):Sem Next).run P A:=by simp only[execOp,ho,Instr.next,aw,alG,Sem.run_bind,zF O (λ_ _ _=>by simp),Result.andThen_ok,oP k1,Q,aes,bP,ag,av,a4];rw[<-alc,K];cases f:r[j]? with|none=>simp only[stuck,Sem.run_bind];rfl|some c'=>cases c' with|none=>simp|some e=>simp only[Sem.run_bind,Sem.run_pure];cases Sem.run P (setObj b (.mapIter (some E) k (p.push e.born) l)) A<;>rfl
    have L:=hj;rw[R]at L;cases f:r[j]? with
    |none=>rw[List.getElem?_eq_none_iff]at f;omega
    |some c'=>
     rw[f]at v;cases c' with
     |none=>
      have bb:((if N.isEmpty then[none]else[])++(N++nA).map some:List (Option aT))[j]?=some none:=by
       simp only[r]at f;by_cases he:F.isEmpty=true;·rw[B];simp only[he,bq]at f⊢;cases j with|zero=>simp|succ j=>simp only[List.singleton_append,ak6,aks,aho]at f;obtain⟨_,_,h⟩:=f;cases h
       have X:F.isEmpty=false:=by simpa using he
       simp only[X,aes,bP,ak0,aks,aho]at f;obtain⟨_,_,h⟩:=f;cases h
      refine⟨j,none,L,bb,bE.val (c:=.tuple #[.bool false]) (w':=A) ?_ ⟨ρ,cL.refl ρ,by simp[VR,bj],a0,a1⟩⟩;rw[v];simp
     |some e=>
      obtain⟨C,bc,v1,v2,v3⟩:∃C:aT,((if N.isEmpty then[none]else[])++(N++nA).map some:List (Option aT))[j]?=some (some C)/\VR ρ C.key e.key/\VR ρ C.val e.val/\C.born=e.born:=by
       simp only[r]at f;by_cases he:F.isEmpty=true;·rw[B];simp only[he,bq]at f⊢;cases j with|zero=>simp at f|succ j=>simp only[List.singleton_append,ak6,aks,aho]at f⊢;obtain⟨e0,h0,u⟩:=f;injection u with u;subst u;obtain⟨C,q1,q2,q3,q4⟩:=d.get j e0 h0;exact⟨C,⟨C,q1,rfl⟩,q2,q3,q4⟩
       rw[B];have X:F.isEmpty=false:=by simpa using he
       simp only[X,aes,bP,ak0,aks,aho]at f⊢;obtain⟨e0,h0,u⟩:=f;injection u with u;subst u;obtain⟨C,q1,q2,q3,q4⟩:=d.get j e0 h0;exact⟨C,⟨C,q1,rfl⟩,q2,q3,q4⟩
      have a5:A.heap[b]?=some (.mapIter (some E) k p t'):=by rw[T];exact O
      have a6:=BB (P:=P) A a5 (λ_ _ _=>by simp) (.mapIter (some E) k (p.push e.born) l);have hu:=a0.sS (i:=id) (o':=.mapIter (some m) k (seen++[C.born]) l) (ob':=.mapIter (some E) k (p.push e.born) l) (w':={A with heap:=A.heap.setIfInBounds b (.mapIter (some E) k (p.push e.born) l)}) (by rw[hi];simp) (by rw[hi];rfl) hb rfl (by simp only[OR];exact⟨trivial,ax,trivial,by rw[Array.toList_push,h3,v3],trivial⟩) (by simp[gS]) rfl rfl rfl rfl;rw[hi]at hu;refine⟨j,some C,L,bc,bE.val (c:=.tuple #[.bool true,e.key,e.val]) (w':=_) ?_ ⟨ρ,cL.refl ρ,by simp[VR,bj,v1,v2],hu.1,a1.trans hu.2⟩⟩;rw[v];simp only[Sem.run_bind,a6,Result.andThen_ok,Sem.run_pure]
   cases he
  cases he
 cases he
end
section
variable{P:Program}{g:cU}{ρ:aP}{H H':ai}{w:World}{nt:Nat}{aa:ap AV}{a:Act}{o:Oper}{ao:bW}{v:AV}
theorem Tx(h:ef P g ρ H w nt aa a){op:BinOp}{t t':TypeId}{x y:Operand}(m:o.op=.binOp op t x y t')(b:bU P nt o=some ao)(he:aE ao aa H=some (v,H')):bE P g ρ w (execOp a.eval o) v H':=by
 have hu:∃d,P.underlying t=some d:=by simp only[bU,m,ae5,iz]at b;cases hu:P.underlying t with|none=>rw[hu]at b;simp at b|some d=>exact⟨d,rfl⟩
 obtain⟨d,hu⟩:=hu;by_cases hint:∃k,d=.int k
 .obtain⟨k,rfl⟩:=hint;by_cases hs:op=.shl\/op=.shr;·grind[Ss]
  exact Sr h m hu (by grind) b he
 by_cases c:d=.string;·subst c;exact Sv h m hu b he
 have n:∀k,P.underlying t≠some (.int k):=λk e=>by rw[hu]at e;injection e with e;exact hint ⟨k,e⟩
 have p:P.underlying t≠some .string:=λe=>by rw[hu]at e;injection e with e;exact c e
 have key:∃neg i j l,op=(if neg then .neq else .eql)/\jP P 16 (rM x||rM y) t=some i/\zp P i t=true/\hZ P nt x=some j/\hZ P nt y=some l/\ao=.eq neg i j l:=by
  simp only[bU,m,ae5,iz,hu,alr]at b;cases op<;>cases d<;>first|(exact absurd ⟨_,rfl⟩ hint)|(exact absurd rfl c)|(simp at b;done)|skip
  all_goals
   simp only[aed]at b;obtain⟨i,f,b⟩:=b;split at b;case isFalse=>cases b
   rename_i hg;simp only[aed,ajB,adG]at b;obtain⟨j,h1,l,h2,h3⟩:=b;first|exact⟨false,i,j,l,rfl,f,hg,h1,h2,h3.symm⟩|exact⟨true,i,j,l,rfl,f,hg,h1,h2,h3.symm⟩
 obtain⟨neg,i,j,l,q,f,hg,h1,h2,rfl⟩:=key;exact Tg h m q f hg h1 h2 n p he
theorem Ty(h:ef P g ρ H w nt aa a){c:Call}{b:Builtin}(d:o.op=.call c)(hb:c.callee=.builtin b)(e:bU P nt o=some ao)(he:aE ao aa H=some (v,H')):bE P g ρ w (execOp a.eval o) v H':=by cases b with|len=>grind[SK]|cap=>grind[SL]|append=>grind[SY]|copy=>grind[SZ]|delete=>grind[Ts]|min=>exact Ll (isMax:=false) h d hb e he|max=>exact Ll (isMax:=true) h d hb e he|clear=>have f:=e;simp only[bU,d,hb,ae5,aed]at f;grind[aed,ajB,adG,S5,Tt]|_=>simp_all[bU]
theorem BC(h:ef P g ρ H w nt aa a)(j:bU P nt o=some ao)(he:aE ao aa H=some (v,H')):bE P g ρ w (execOp a.eval o) v H':=by
 cases l:o.op with
 |move x=>grind[Lb]
 |assign x=>exact Lb h (.inr l) j he
 |pick c x y=>grind[Sf]
 |alloc e=>grind[Sg]
 |box e x=>grind[Sh]
 |build t fi=>grind[SN]
 |buildSlice t len fi=>grind[SO]
 |insert t m k x=>exact LM h (.inr l) j he
 |load t x=>grind[Si]
 |store t x y=>grind[Sk]
 |nilCheck x=>grind[Sn]
 |binOp op t x y t'=>grind[Tx]
 |unOp op t x=>grind[Sw]
 |convert s d x=>grind[SR]
 |makeInterface t x=>grind[Sx]
 |makeFunc f x y=>grind[Sy,bU]
 |makeMap t r=>grind[Sz,bU]
 |makeSlice t x y=>grind[SQ]
 |slice t x lo hi p=>grind[SH]
 |fieldAddr t x i=>grind[SB]
 |field t x i=>grind[SA]
 |indexAddr t x i=>grind[SD]
 |index t x i=>grind[SE]
 |lookup t m k ok=>grind[Tn]
 |mapUpdate t m k x=>grind[LM]
 |mapEntry t m k=>grind[Tp]
 |entryStore t m s x=>grind[Tq]
 |range t x=>grind[Tu]
 |next n s=>grind[Tv]
 |entry n=>grind[Tw]
 |typeAssert x q t ok=>grind[SS]
 |extract x i=>grind[SC]
 |call c=>cases hb:c.callee with|builtin b=>grind[Ty]|value f=>simp only[bU,l,hb,ae5,aed,ajB,adG]at j;obtain⟨_,_,_,_,rfl⟩:=j;trivial|invoke r m=>simp_all[bU]
 |_=>simp_all[bU]
end
section
variable{P:Program}{h:cU}{ρ:aP}{H H':ai}{w:World}{nt:Nat}{aa:ap AV}
def mP(ρ:aP):List ab->List Deferred->Prop
 |[],[]=>True
 |i::l,d::m=>(∃r,ρ i=some (r,0)/\d={target:=.collected r,args:= #[]})/\mP ρ l m
 |_,_=>False
theorem mP.mono{ρ a:aP}(b:cL ρ a):∀{l:List ab}{m:List Deferred},mP ρ l m->mP a l m|[],[],_=>trivial|_::_,_::_,k=>⟨by obtain⟨⟨r,h1,h2⟩,_⟩:=k;exact⟨r,(b _ _ h1).1,h2⟩,mP.mono b k.2⟩|[],_::_,k=>by trivial|_::_,[],k=>by trivial
structure iM(ρ:aP)(nt:Nat)(fr:Fr)(ro:Option Nat)(a:Act):Prop where
 E:jg ρ nt fr.aa a.tmps
 D:mP ρ fr.bI a.defers
 R:pQ ρ fr.bG ro
theorem iM.mono{ρ b:aP}(c:cL ρ b){fr:Fr}{ro:Option Nat}{a:Act}(k:iM ρ nt fr ro a):iM b nt fr ro a:=⟨k.E.mono c,k.D.mono c,by
 have:=k.R;revert this;cases fr.bG<;>cases ro<;>simp only[pQ]<;>intro q;·simp
 .omega
 .omega
 exact(c _ _ q).1⟩
def zG(k:List Item):cP->List Item->Prop
 |.none,t=>t=k
 |.exit id,t=>∃a,t=.code (.exit id)::a/\exitTo id a=exitTo id k
 |.ret,t=>∃a,t=.code .ret::a
def pS(f:Value)(args:Array Value):Sem Next:=do
 let d<-Deferred.ofValue f args
 invoke d.target d.args
def sW(fr:Frame):Prop:=
 match fr.todo with
 |.inRegion _ _::_|.inRangeFunc _::_=>True
 |_=>False
theorem DK{fr:Frame}{cs:List Frame}{s:Sem Next}{w a:World}{v:Value}(b:s.run P w=.ok (.value v) a):(stepG.apply P true fr cs none s w).bare=.go {frame:=fr.finish v,callers:=cs,status:=.running,dying:=none} a:=by simp[b,stepG.apply]
theorem GU{fr:Frame}{cs:List Frame}{s:Sem Next}{w a:World}(b:s.run P w=.ok .skip a):(stepG.apply P true fr cs none s w).bare=.go {frame:=fr.finish undef,callers:=cs,status:=.running,dying:=none} a:=by simp[b,stepG.apply]
theorem LS{fr:Frame}(a:sW fr){cs:List Frame}{s:Sem Next}{w b:World}{f:FuncId}{args:Array Value}(d:s.run P w=.ok (.enter f args) b):(stepG.apply P true fr cs none s w).bare=.go {frame:=Frame.enter P f args .normal,callers:=fr::cs,status:=.running,dying:=none} b:=by obtain⟨fn,tmps,c,defers,mode,kind,ro⟩:=fr;unfold sW at a;simp only at a;split at a<;>first|(exact False.elim a)|simp[stepG.apply,d]
theorem Tz{fr:Frame}(b:sW fr){cs:List Frame}{s:Sem Next}{w a:World}{l:Nat}{f:FuncId}{tmps:Array Value}{assign body:Code}(c:s.run P w=.ok (.round l f tmps assign body) a):(stepG.apply P true fr cs none s w).bare=.go {frame:=Frame.round l f tmps assign body .normal,callers:=fr::cs,status:=.running,dying:=none} a:=by simp[b,c,sW,False.elim,stepG.apply]
theorem LU:∀(l:List AV)(p:Nat)(t:ap AV)(i:Nat),(kJ l (ab.dF p) t).get .alR (ab.dF i)=if p<=i/\i<p+l.length then l.getD (i - p) .alR else t.get .alR (ab.dF i)
 |[],p,t,i=>by rw[kJ,aq (by simp only[List.length_nil];omega)]
 |v::l,p,t,i=>by
  rw[kJ,show(ab.dF p).succ=ab.dF (p+1)from rfl,LU l (p+1),ap.aF];simp only[akA];by_cases h1:p+1<=i/\i<p+1+l.length;·rw[aK h1,aK af,show i - p=(i - (p+1))+1 by omega];simp
  rw[aq h1];by_cases h2:i=p;·subst h2;rw[aK rfl,aK af];simp
  rw[aq (λe=>h2 (ab.bM e)),aq af]
theorem GV:∀p:ab,(ap.aL:ap AV).get .alR p=.alR|.xH=>rfl|.xO p=>by exact GV p|.xI p=>by exact GV p
theorem GW{l:List AV}{args:Array Value}(f:bj ρ l args.toList)(a:l.length<=nt):jg ρ nt (kJ l .xH .aL) (args++alH (nt - args.size) undef):=by
 have hl:l.length=args.size:=by have:=bj.length f;simpa using this
 refine⟨by grind,λt b=>?_⟩;have:=LU l 0 .aL t;rw[show ab.dF 0=.xH from rfl]at this;rw[this,GV];by_cases h1:t<l.length;·obtain⟨c,d,e⟩:=bj.get f t l[t] aB;have h2:t<args.size:=af;simp_all
 rw[aq af];have:(args++alH (nt - args.size) undef).getD t undef=undef:=by rw[akJ,Array.getElem?_append_right af,Array.getElem?_replicate];split<;>rfl
 rw[this];exact VR.alR ρ
theorem LW:∀{ps:List Tmp}{a:List AV}{cs:List Value}{aa:ap AV}{tmps:Array Value},jg ρ nt aa tmps->bj ρ a cs->a.length=ps.length->jg ρ nt (ph (ps.map ab.dF) a aa) ((ps.zip cs).foldl (λtmps(p:Tmp×Value)=>tmps.setIfInBounds p.1 p.2) tmps)|[],[],[],aa,tmps,d,_,_=>by trivial|p::ps,v::a,c::cs,aa,tmps,d,b,hl=>by simp only[aj7,ph,List.zip_cons_cons,List.foldl_cons];exact LW (d.set b.1) b.2 (by grind)|[],_::_,_,_,_,_,_,hl=>by grind|_::_,[],_,_,_,_,_,hl=>by grind|_,[],_::_,_,_,_,b,_=>by trivial|_,_::_,[],_,_,_,b,_=>by trivial
theorem DL:∀{l:List ab}{j:List Deferred}{H H':ai}{w:World},bz P h ρ H w->mP ρ l j->jN H l=some H'->∀(fr:Frame)(cs:List Frame),fr.mode=.returning->∃w',Steps P (lone {fr with defers:=j} cs w) (lone {fr with defers:=[]} cs w')/\bz P h ρ H' w'/\eC h w w'
 |[],[],H,H',w,m,_,y,fr,cs,_=>by grind[jN,adG,Steps.refl,eC.refl]
 |i::l,d::j,H,H',w,m,e,y,fr,cs,n=>by
  obtain⟨⟨r,o,rfl⟩,e⟩:=e;simp only[jN]at y;split at y
  .rename_i hi;have f:H.get i≠.none:=by rw[hi];simp
   obtain⟨v,x,p,k,u,g,a⟩:=m.aH f;rw[o]at k;injection k with k;injection k with e1 e2;subst e1;subst e2;rw[hi]at a;cases p<;>simp only[OR]at a;rename_i cs';obtain⟨_,b⟩:=a;have b:=b trivial;subst b;have hu:=m.sS (i:=i) (o':=.deferred true) (ob':=.deferred none) f (by rw[hi];rfl) o rfl (by simp only[OR];exact⟨trivial,λy=>by cases y⟩) (by simp[gS]) (w':={w with heap:=w.heap.setIfInBounds r (.deferred none)}) rfl rfl rfl rfl;rw[hi]at hu;obtain⟨w',q,s,t⟩:=DL hu.1 e y fr cs n;have c:(Instr.takeDeferred r).run P w=.ok [] {w with heap:=w.heap.setIfInBounds r (.deferred none)}:=by simp only[Instr.takeDeferred,Sem.run_bind,zF g (λ_ _ _=>by simp),Result.andThen_ok,BB w g (λ_ _ _=>by simp),Sem.run_pure]
   refine⟨w',.head (step_lone_go (fr':={fr with defers:=j}) (cs':=cs) (w':={w with heap:=w.heap.setIfInBounds r (.deferred none)}) ?_) q,s,hu.2.trans t⟩;simp[stepG,n,unwind,Sem.runT_eq,c]
  grind
 |[],_::_,_,_,_,_,e,_,_,_,_=>by trivial
 |_::_,[],_,_,_,_,e,_,_,_,_=>by trivial
def DM(tmps:Array Value):ResultVar->Sem Value
 |.tmp t=>pure (tmps.getD t undef)
 |.cell a t=>do loadVar t (<-asAddr (tmps.getD a undef))
theorem TA(fn:Func)(tmps:Array Value):results fn tmps=(do let a<-fn.results.mapM (DM tmps)pure (if b:a.size=1 then a[0]else .tuple a)):=rfl
theorem GY(j:bz P h ρ H w){aa:ap AV}{tmps:Array Value}(i:jg ρ nt aa tmps):∀{k:List ResultVar}{d:List iW}{l:List AV},k.mapM (Bq P nt)=some d->gZ aa H d=some l->∃e:List Value,bj ρ l e/\(k.mapM (DM tmps)).run P w=.ok e w
 |[],d,l,h1,h2=>by simp_all[List.mapM_nil,ajB,adG,gZ,bj]
 |r::k,d,l,h1,h2=>by
  simp only[alw,ae5,aed,ajB,adG]at h1;obtain⟨ar,a,x,f,rfl⟩:=h1;cases r with
  |tmp t=>
   simp only[Bq]at a;split at a
   .rename_i m;injection a with a;subst a;simp only[gZ,aho]at h2;obtain⟨A,p,rfl⟩:=h2;obtain⟨e,n,o⟩:=GY j i f p;refine⟨tmps.getD t undef::e,?_,?_⟩;·exact⟨i.2 t m,n⟩
    simp[o,alw,DM,Sem.run_bind,Sem.run_pure,Result.andThen_ok]
   grind
  |cell ad t=>
   simp only[Bq]at a;split at a
   .rename_i g s hg hs;split at a
    .rename_i m;injection a with a;subst a;simp only[gZ]at h2;split at h2;·rename_i v B y q;injection h2 with h2;subst h2;obtain⟨b,hb,c,z,u⟩:=Lc j (i.2 ad m) hg (λC=>by grind) (λC=>by grind) y;obtain⟨e,n,o⟩:=GY j i f q;simp[u,n,hb,z,o,bj,alw,DM,asAddr,Sem.run_bind,Sem.run_pure,Result.andThen_ok]
     grind
    grind
   grind
theorem GZ(e:bz P h ρ H w){aa:ap AV}{tmps:Array Value}{fn:Func}(f:jg ρ fn.ntmps aa tmps){b:List iW}{l:List AV}(h1:fn.results.toList.mapM (Bq P fn.ntmps)=some b)(h2:gZ aa H b=some l):∃c,(results fn tmps).run P w=.ok c w/\VR ρ (iL l) c:=by obtain⟨d,a,g⟩:=GY e f h1 h2;have hl:=bj.length a;rw[TA,Array.mapM_eq_mapM_toList];simp only[Sem.run_bind,Sem.run_map,g,Result.andThen_ok,Sem.run_pure];match l,d,a,hl with|[],[],_,_=>exact⟨.tuple #[],aB,by simp[iL,VR,bj]⟩|[v],[c],a,_=>exact⟨c,aB,by simp only[bj]at a;exact a.1⟩|v::i::l,c::c2::d,a,_=>refine⟨.tuple (c::c2::d).toArray,aB,?_⟩;simp only[iL,VR];exact a
end
section
variable{P:Program}
abbrev dK:Nat->(Nat->Prop)->Prop:=λn k=>∀i,i<n->k i
def zH(P:Program)(f:cU)(g:aP)(w:World)(s:Sem Next)(fr:Frame)(cs:List Frame)(K:KT):Prop:=
 ∃v b c d fr1 a e,K v b/\dp P f g w v b c d/\
  (stepG.apply P true fr cs none s w).bare=.go {frame:=fr1,callers:=a,status:=.running,dying:=none} e/\Steps P (lone fr1 a e) (lone (fr.finish c) cs d)
def xD(P:Program)(f:FuncId)(g:List AV->ai->Option (AV×ai)):Prop:=
 ∀{c:cU}{a:aP}{H d:ai}{w:World}{args:List AV}{v:AV}{argv:Array Value},g args H=some (v,d)->bj a args argv.toList->bz P c a H w->∀(fr:Frame)(cs:List Frame),sW fr->
  zH P c a w (callFunc f argv) fr cs λe b=>e=v/\b=d
def uJ(P:Program)(ac:Nat->aG)(n:Nat):Prop:=
 ∀{b:cU}{a:aP}{H:ai}{w:World}{c:AV}{args:List AV}{K:KT}{fv:Value}{argv:Array Value},io False dK ac n c args H K->VR a c fv->bj a args argv.toList->bz P b a H w->
  ∀(fr:Frame)(cs:List Frame),sW fr->zH P b a w (pS fv argv) fr cs K
def jh(P:Program)(e:cU)(h:aP)(i:Nat)(w:World)(b:Frame)(k:List Item)(cs:List Frame)(m:Machine)(K:cP->Fr->ai->Prop):Prop:=
 ∃j c f a g d t,K j c f/\cL h a/\iM a i c b.roundOf g/\bz P e a f d/\eC e w d/\zG k j t/\Steps P m (lone (b.atR g t) cs d)
def xE(P:Program)(t:Nat)(g:ap AV->ai->Option (ap AV×ai)):Prop:=
 ∀{f:cU}{e:aP}{H h:ai}{w:World}{d:Nat}{fr:Fr}{c1 c2:Code}{x y:bt}{c:ap AV}{b:Frame}{a:Act},eX P d c1=some x->eX P d c2=some y->Ov.code t=.seq x y->g fr.aa H=some (c,h)->iM e d fr b.roundOf a->bz P f e H w->
  ∀(k:List Item)(cs:List Frame),jh P f e d w b k cs (lone (b.atR a (.code (.seq c1 c2)::k)) cs w) λj fr1 H1=>j=.none/\fr1={fr with aa:=c}/\H1=h
structure kr(P:Program)(ac:Nat->aG):Prop where
 code:∀f nt rs body,ac f=.code nt rs body->∃fn,P.funcs[f]?=some fn/\uA P fn=some (.code nt rs body)/\(fn.name== "runtime.NumGoroutine")=false
 ix:∀f g,ac f=.ix g->xD P f g
 ez:∀t g,ac t=.ez g->xE P t g
def zI(P:Program)(ac:Nat->aG)(n:Nat):Prop:=
 ∀{f:cU}{d:aP}{H:ai}{w:World}{e:Nat}{fr:Fr}{c:bt}{cc:Code}{K:cP->Fr->ai->Prop}{b:Frame}{a:Act},eX P e cc=some c->exec False dK ac n c fr H K->iM d e fr b.roundOf a->bz P f d H w->
  ∀(k:List Item)(cs:List Frame),jh P f d e w b k cs (lone (b.atR a (.code cc::k)) cs w) K
def zJ(P:Program)(a:Nat)(aC:Array Oper):List Nat->List be->Prop
 |[],[]=>True
 |i::is,x::l=>(∃o,aC[i]?=some o/\sP P a aC o=some x)/\zJ P a aC is l
 |_,_=>False
def DN(P:Program)(ac:Nat->aG)(n:Nat):Prop:=
 ∀{e:cU}{c:aP}{H:ai}{w:World}{d:Nat}{fr:Fr}{l:List be}{is:List Nat}{aC:Array Oper}{K:Fr->ai->Prop}{b:Frame}{a:Act},zJ P d aC is l->Go.am.aC False dK ac n l fr H K->iM c d fr b.roundOf a->bz P e c H w->
  ∀(k:List Item)(cs:List Frame),jh P e c d w b k cs (lone (b.atR a (.inRegion aC is::k)) cs w) λj fr H=>(match j with|.none=>True|_=>False)/\K fr H
theorem jh.iY{d:cU}{e:aP}{f:Nat}{w:World}{b:Frame}{k:List Item}{cs:List Frame}{m g:Machine}{K:cP->Fr->ai->Prop}(h:Steps P m g)(i:jh P d e f w b k cs g K):jh P d e f w b k cs m K:=by obtain⟨j,a,l,c,n,o,t,h1,h2,h3,p,q,r,s⟩:=i;exact⟨j,a,l,c,n,o,t,h1,h2,h3,p,q,r,h.trans s⟩
theorem jh.vS{c:cU}{f a:aP}{g:Nat}{w h:World}{b:Frame}{k:List Item}{cs:List Frame}{m:Machine}{K:cP->Fr->ai->Prop}(he:cL f a)(i:eC c w h)(l:jh P c a g h b k cs m K):jh P c f g w b k cs m K:=by obtain⟨j,d,n,e,o,p,t,h1,h2,h3,q,r,s,u⟩:=l;exact⟨j,d,n,e,o,p,t,h1,he.trans h2,h3,q,i.trans r,s,u⟩
theorem jh.mono{d:cU}{e:aP}{nt:Nat}{w:World}{b:Frame}{k:List Item}{cs:List Frame}{m:Machine}{K f:cP->Fr->ai->Prop}(g:jh P d e nt w b k cs m K)(h:∀j fr H,K j fr H->f j fr H):jh P d e nt w b k cs m f:=by obtain⟨j,a,i,c,l,n,t,h1,h2⟩:=g;exact⟨j,a,i,c,l,n,t,h _ _ _ h1,h2⟩
theorem iM.put{b:aP}{e:Nat}{fr:Fr}{ro:Option Nat}{a:Act}(h:iM b e fr ro a){v:AV}{c:Value}(f:VR b v c)(d:Option Tmp):iM b e {fr with aa:=aQ fr.aa (d.map ab.dF) v} ro (a.put d c):=by cases d with|none=>trivial|some d=>exact⟨h.E.set f,h.D,h.R⟩
theorem BD{b:Nat}{aC:Array Oper}{o:Oper}{x:be}(h:sP P b aC o=some x):x.dst=o.dst.map ab.dF/\x.jM=[]/\x.re=[]/\x.op=(if((bU P b o).getD .pM).Bn&&!zr o.op then .pM else(bU P b o).getD .pM)/\((o.guard=none/\x.guard=none)\/∃j a g d,o.guard=some (j,a)/\aC[j]?=some g/\g.dst=some d/\d<b/\x.guard=some (ab.dF d,a)):=by
 unfold sP at h;split at h;·rename_i d g hd hg;injection h with h;subst h;refine⟨?_,rfl,rfl,rfl,?_⟩;all_goals grind[KS,adG,KU,aed]
 grind
theorem G0{aa:ap AV}{g:Option (ab×Bool)}(h:fF aa g=true):lX aa g=true:=by
 cases g with
 |none=>rfl
 |some g=>
  simp only[fF]at h;simp only[lX];split at h;·rename_i he;rw[he];rfl
  cases h
theorem LX{k:aP}{f:Nat}{fr:Fr}{ro:Option Nat}{a:Act}(h:iM k f fr ro a){aC:Array Oper}{o:Oper}{x:be}(l:sP P f aC o=some x)(b:lX fr.aa x.guard=true):Region.wanted o (yielded aC a.tmps)=fF fr.aa x.guard:=by
 obtain⟨_,_,_,_,hg⟩:=BD l;rcases hg with⟨h1,h2⟩|⟨j,e,g,d,h1,h2,h3,i,m⟩;·simp[h2,h1,Region.wanted,fF]
 rw[m]at b⊢;simp only[lX]at b;have c:=h.E.2 d i;have hs:d<a.tmps.size:=by rw[h.E.1];exact i
 have n:a.tmps[d]?=some (a.tmps.getD d undef):=by rw[akJ,getElem?_pos a.tmps d hs];rfl
 simp only[Region.wanted,h1,yielded,h2,h3,alr,n,fF];cases he:fr.aa.get .alR (ab.dF d)with|bool q=>rw[he]at c;rw[c.rO];cases q<;>cases e<;>rfl|co=>rw[he]at b;simp[AV.bB]at b|_=>rw[he]at c;cases p:a.tmps.getD d undef<;>rw[p]at c<;>first|rfl|(simp[VR]at c;done)
end
section
variable{P:Program}
theorem jh.DO{d:cU}{c:aP}{H:ai}{w:World}{e:Nat}{fr:Fr}{K:cP->Fr->ai->Prop}{b:Frame}{a:Act}(f:iM c e fr b.roundOf a)(g:bz P d c H w)(h:K .none fr H)(k:List Item)(cs:List Frame):jh P d c e w b k cs (lone (b.atR a k) cs w) K:=⟨.none,fr,H,c,a,w,k,h,cL.refl c,f,g,eC.refl d w,rfl,Steps.refl _ _⟩
theorem LY{a:Nat}{o:Oper}{f:aJ}{args:List aJ}(b:zr o.op=true)(d:bU P a o=some (.call f args)):∃c g,o.op=.call c/\c.callee=.value g/\hZ P a g=some f/\vM P a c.args=some args:=by
 unfold zr at b;split at b
 .rename_i c e;split at b;·simp_all[bU,ae5,aed,ajB,adG]
  grind
 grind
theorem BE{a:Nat}{o:Oper}{x:bW}(b:bU P a o=some x):∀c,o.op≠.defer c:=by grind[bU]
theorem TB{ac:Nat->aG}{n:Nat}(O:uJ P ac n)(X:DN P ac n):DN P ac (n+1):=by
 intro T S H w A fr l is aC K b a hR he C D k cs;cases l with
 |nil=>cases is with|cons i is=>trivial|nil=>exact .iY (.one stepR_region_end) (.DO C D ⟨trivial,he⟩ k cs)
 |cons x l=>
  cases is with
  |nil=>trivial
  |cons i is=>
   obtain⟨⟨o,z,hx⟩,hR⟩:=hR;obtain⟨xd,xh,xr,Z,_⟩:=BD hx;have hg:=LX C hx;have after:∀{r:aP}{B:ai}{F:World}{v:AV}{c:Value},cL S r->VR r v c->bz P T r B F->eC T w F->Steps P (lone (b.atR a (.inRegion aC (i::is)::k)) cs w) (lone (b.atR (a.put o.dst c) (.inRegion aC is::k)) cs F)->Go.am.aC False dK ac n l {fr with aa:=aQ fr.aa x.dst v} B K->jh P T S A w b k cs (lone (b.atR a (.inRegion aC (i::is)::k)) cs w) λj fr H=>(match j with|.none=>True|_=>False)/\K fr H:=by intro r B F v c h G s I hs M;have W:=(C.mono h).put G o.dst;rw[<-xd]at W;exact .vS h I (.iY hs (X hR M W s k cs))
   have u:∀c,(b.atR a (.inRegion aC (i::is)::k)).finish c=b.atR (a.put o.dst c) (.inRegion aC is::k):=by intro c;rw[Frame.finish_atR,z];rfl
   simp only[Go.am.aC,xh,xr,eV,eB,fG,bq]at he;cases N:fF fr.aa x.guard with
   |false=>
    rw[N]at he hg;simp only[aes,bP]at he;split at he;case isFalse=>grind
    rename_i ag;have hg:=hg ag;have eh:=stepR_op_skip (P:=P) (b:=b) (a:=a) (k:=k) (cs:=cs) (w:=w) (ops:=aC) (i:=i) (rest:=is) (by simp[z,hg]);rw[z]at eh;exact after (cL.refl S) (VR.alR S) D (eC.refl T w) (.one eh) he
   |true=>
    have hg:=hg (G0 N);rw[N]at he hg;simp only[bq]at he;have e:=stepGR_op (P:=P) (b:=b) (a:=a) (k:=k) (cs:=cs) (w:=w) (rest:=is) z hg;have plain:∀{v:AV}{B:ai},aE x.op fr.aa H=some (v,B)->Go.am.aC False dK ac n l {fr with aa:=aQ fr.aa x.dst v} B K->jh P T S A w b k cs (lone (b.atR a (.inRegion aC (i::is)::k)) cs w) λj fr H=>(match j with|.none=>True|_=>False)/\K fr H:=by
     intro v B t M;have p:bU P A o=some x.op:=by
      rw[Z]at t;rw[Z];split at t;·simp[aE]at t
      rename_i J;rw[aq J];cases L:bU P A o with|none=>rw[L]at t;simp[aE]at t|some q=>rfl
     rw[Oper.semAt_eq _ _ _ (BE p)]at e;obtain⟨c,F,y,r,h,G,s,I⟩:=BC (ef.mk C.E D) p t;refine after h G s I (.one (step_lone_go ?_)) M;rw[e,<-u];rcases y with V|⟨V,rfl⟩;·exact DK V
     exact GU V
    split at he
    .rename_i f args d;have m:bU P A o=some (.call f args)/\zr o.op=true:=by
      rw[Z]at d;split at d;·cases d
      rename_i J;rw[d]at J;simp only[bW.Bn,Bool.true_and,akU,Bool.not_eq_false]at J;refine⟨?_,J⟩;cases L:bU P A o with|none=>rw[L]at d;cases d|some q=>rw[L]at d;simp only[akQ]at d;rw[d]
     obtain⟨c,g,ho,av,h1,h2⟩:=LY m.2 m.1;rw[Oper.semAt_eq _ _ _ (BE m.1)]at e;have Y:execOp a.eval o=pS (a.eval g) (c.args.map a.eval):=by simp only[execOp,ho,resolve,av,pS]
     rw[Y]at e;have Q:bj S (args.map (gv fr.aa)) (c.args.map a.eval).toList:=by rw[Array.toList_map];exact zB C.E D h2
     obtain⟨v,B,c',F,fr1,ay,w1,I,⟨r,h,G,s,R⟩,hb,hs⟩:=O he (zA h1 C.E D) Q D (b.atR a (.inRegion aC (i::is)::k)) cs (by trivial);refine after h G s R ?_ I;rw[<-u];exact .head (step_lone_go (by grind)) hs
    .rename_i it d;have p:bU P A o=some (.lU it):=by
      rw[Z]at d;split at d;·cases d
      cases L:bU P A o with|none=>rw[L]at d;cases d|some q=>rw[L]at d;simp only[akQ]at d;rw[d]
     split at he;·rename_i ax a0 J;obtain⟨j,cd,hj,aw,c,F,y,r,h,G,s,I⟩:=LR (ef.mk C.E D) p J;have he:=he j hj;simp only[aw]at he;rw[Oper.semAt_eq _ _ _ (BE p)]at e;refine after h G s I (.one (step_lone_go ?_)) he;rw[e,<-u];rcases y with V|⟨V,rfl⟩;all_goals grind[DK,GU]
     grind
    grind
end
section
variable{P:Program}
def LZ(P:Program)(ac:Nat->aG)(n:Nat):Prop:=
 ∀{e:cU}{c:aP}{H:ai}{w:World}{d:Nat}{fr:Fr}{l:List be}{id:Nat}{aC:Array Oper}{K:Fr->ai->Prop}{b:Frame}{a:Act},xw P d aC true=some l->Go.am.aC False dK ac n l fr H K->iM c d fr b.roundOf a->bz P e c H w->
  ∀(k:List Item)(cs:List Frame),jh P e c d w b k cs (lone (b.atR a (.code (.region id aC true)::k)) cs w) λj fr H=>(match j with|.none=>True|_=>False)/\K fr H
theorem zG.sX{x:Item}(a:∀id k,exitTo id (x::k)=exitTo id k){k:List Item}{j:cP}{t:List Item}(hj:match j with|.none=>False|_=>True)(h:zG (x::k) j t):zG k j t:=by cases j with|none=>grind|exit id=>obtain⟨b,h1,h2⟩:=h;exact⟨b,h1,h2.trans (a id k)⟩|ret=>exact h
theorem TC{b:Nat}{aC:Array Oper}{l:List be}(h:xw P b aC false=some l):zJ P b aC (ake aC.size) l:=by
 simp only[xw,ae5,aed,Bool.not_false,bq,ajB,adG]at h;obtain⟨c,h,rfl⟩:=h;have key:∀(cO a:List Oper)(l:List be),aC.toList=cO++a->a.mapM (sP P b aC)=some l->zJ P b aC (List.range' cO.length a.length) l:=by
  intro cO a;induction a generalizing cO with
  |nil=>intro l _ h;simp at h;subst h;simp[zJ]
  |cons o a f=>
   intro l e h;simp only[alw,ae5,aed,ajB,adG]at h;obtain⟨x,g,c,d,rfl⟩:=h;simp only[akA,List.range'_succ,zJ];refine⟨⟨o,?_,g⟩,?_⟩;·rw[<-alc,e];simp
   have:=f (cO++[o]) c (by rw[e];simp) d;simpa using this
 have:=key [] aC.toList c rfl h;simp_all[List.range_eq_range']
section
variable{b:Frame}{a:Act}{k:List Item}{cs:List Frame}{w:World}
theorem L8{c:Code}:step P (lone (b.atR a (.code (.scope c)::k)) cs w)=.next (lone (b.atR a (.code c:: .inScope c::k)) cs w):=step_lone_go (by rfl)
theorem L9{c:Code}:step P (lone (b.atR a (.inScope c::k)) cs w)=.next (lone (b.atR a k) cs w):=step_lone_go (by rfl)
end
theorem zK{i:cU}{c:aP}{H:ai}{w:World}(j:bz P i c H w){l:ab}{st:sK}{cB:cP}{fn:Nat}{aa:ap AV}{g:List ab}{as h:bt}{d:ab}(hl:H.get l=.loop st cB fn aa g as h d){b:Nat}{x:Nat}(hb:c l=some (b,x)):∃r,x=0/\w.heap[b]?=some (.loop r)/\qG st r.state/\qH cB r.pending/\c d=some (r.defers,0)/\r.params.toList.map ab.dF=g/\∃f,jg c f aa r.tmps/\(∀p∈r.params.toList,p<f)/\eX P f r.assign=some as/\eX P f r.body=some h:=by obtain⟨o,q,k,e,m,n,a⟩:=j.aH (i:=l) (by grind);rw[hb]at e;injection e with e;injection e with e1 e2;subst e1;subst e2;rw[hl]at a;cases k<;>simp only[OR]at a;grind
theorem BF{b:Nat}{r:Loop}{w:World}(h:w.heap[b]?=some (.loop r)):(Instr.getLoop b).run P w=.ok r w:=by simp[h,Instr.getLoop,Sem.run_bind,zF,Result.andThen_ok,Sem.run_pure]
theorem G1{e:cU}{f:aP}{H:ai}{w:World}(j:bz P e f H w){l:ab}{st:sK}{cB:cP}{fn:Nat}{aa:ap AV}{g:List ab}{as h:bt}{d:ab}(hl:H.get l=.loop st cB fn aa g as h d){b:Nat}(hb:f l=some (b,0)){r:Loop}(k:w.heap[b]?=some (.loop r)){st':sK}{pend':cP}{s':LoopState}{p':Option Code}(h1:qG st' s')(h2:qH pend' p')(c:Nat):(setObj b (.loop {r with state:=s',pending:=p'})).run P w=.ok () {w with heap:=w.heap.setIfInBounds b (.loop {r with state:=s',pending:=p'})}/\bz P e f (H.set l (.loop st' pend' c aa g as h d)) {w with heap:=w.heap.setIfInBounds b (.loop {r with state:=s',pending:=p'})}/\eC e w {w with heap:=w.heap.setIfInBounds b (.loop {r with state:=s',pending:=p'})}:=by
 obtain⟨p,_,a,q,s,m,n,o⟩:=zK j hl hb;rw[k]at a;injection a with a;injection a with a;subst a;have i:H.get l≠.none:=by rw[hl];simp
 have hu:=j.sS (i:=l) (o':=.loop st' pend' c aa g as h d) (ob':=.loop {r with state:=s',pending:=p'}) i (by rw[hl];rfl) hb rfl (by simp only[OR];exact⟨trivial,h1,h2,m,n,o⟩) (by simp[gS]) (w':={w with heap:=w.heap.setIfInBounds b (.loop {r with state:=s',pending:=p'})}) rfl rfl rfl rfl;rw[hl]at hu;exact⟨BB w k (λ_ _ _=>by simp) _,hu.1,hu.2⟩
end
section
variable{P:Program}
theorem TD{ac:Nat->aG}{n:Nat}(S:uJ P ac n){W:cU}{z:aP}{H:ai}{w:World}{A:Nat}{fr:Fr}{f:Operand}{of:aJ}{q:Array Tmp}{as B:Code}{F G:bt}{K:cP->Fr->ai->Prop}{b:Frame}{a:Act}(hf:hZ P A f=some of)(a5:eX P A as=some F)(a6:eX P A B=some G)(a8:∀p∈q.toList,p<A)(he:exec False dK ac (n+1) (.rangeFunc of (q.toList.map ab.dF) F G) fr H K)(L:iM z A fr b.roundOf a)(X:bz P W z H w)(k:List Item)(cs:List Frame):jh P W z A w b k cs (lone (b.atR a (.code (.rangeFunc f q as B)::k)) cs w) K:=by
 have J:∀{g:aP}{H1:ai}{i:World}{fr1:Fr}{mark:List Deferred}{d:ab}{bd':Nat},cL z g->eC W w i->bz P W g H1 i->iM g A fr1 b.roundOf {a with defers:=mark++a.defers}->g d=some (bd',0)->fr1.aa=fr.aa->(Instr.enterLoop b.fn a.tmps q as B b.roundOf).run P w=.ok (i.heap.size,mark) {i with heap:=i.heap.push (.loop {state:=.ready,pending:=none,fn:=b.fn,tmps:=a.tmps,params:=q,assign:=as,body:=B,defers:=bd'})}->(io False dK ac n (gv fr1.aa of) [.yield H1.next] (H1.new (.loop .ready .none 0 fr1.aa (q.toList.map ab.dF) F G d)) λ_ H'=>match H'.get H1.next with
  |.loop st cB fn aa q as B d=>match st with|.busy=>False|_=>K cB fr1 (H'.set H1.next (.loop .exhausted cB fn aa q as B d))
  |_=>False)->jh P W z A w b k cs (lone (b.atR a (.code (.rangeFunc f q as B)::k)) cs w) K:=by
  intro g H1 i fr1 mark d bd' s a9 O Z hd ay a0 a';have a1:∀j c y,g j=some (c,y)->c=i.heap.size->g.k i.heap.size=(0,0):=λj c y e hc=>by have:=O.fH j c y e;omega
  have t:cL g (g.add H1.next i.heap.size 0 (0,0)):=aP.sR _ _ _ (O.eo _ (afb _)).2 a1;obtain⟨M,q2,q3⟩:=O.alloc (o:=.loop .ready .none 0 fr1.aa (q.toList.map ab.dF) F G d) (ob:=.loop {state:=.ready,pending:=none,fn:=b.fn,tmps:=a.tmps,params:=q,assign:=as,body:=B,defers:=bd'}) (0,0) (by simp[gS]) aB rfl (by simp only[OR];exact⟨trivial,by simp[qG],by simp[qH],(t _ _ hd).1,by trivial,A,by rw[ay];exact(L.E.mono s).mono t,a8,a5,a6⟩);have ba:VR (g.add H1.next i.heap.size 0 (0,0)) (gv fr1.aa of) (a.eval f):=zA (a:={a with defers:=mark++a.defers}) hf (Z.E.mono M) q2;obtain⟨v,H',c,w',bb,bc,w2,hK,⟨bd,m,hv,ag,T⟩,hb,hs⟩:=S a' ba (args:=[.yield H1.next]) (argv:= #[.func (.yield i.heap.size) #[] #[]]) (by simp only[bj,VR];exact⟨⟨aP.fP ..,by trivial,by trivial⟩,trivial⟩) q2 (b.atR {a with defers:=mark++a.defers} (.inRangeFunc i.heap.size::k)) cs (by simp[sW,Frame.atR]);rw[finish_atR_inRangeFunc]at hs;split at hK
  .rename_i st cB fn aa av aw ax d' hl;have u:=(m _ _ (aP.fP g H1.next i.heap.size 0 (0,0))).1;obtain⟨r,_,C,g1,N,_⟩:=zK ag hl u;have bv:st≠.busy/\K cB fr1 (H'.set H1.next (.loop .exhausted cB fn aa av aw ax d')):=by cases st<;>first|exact hK.elim|exact⟨aB,hK⟩
   obtain⟨s1,s2,s3⟩:=G1 ag hl u C (st':=.exhausted) (s':=.exhausted) (pend':=cB) (p':=r.pending) (by simp[qG]) N fn;have a2:(Instr.endLoop i.heap.size).run P w'=.ok r.pending {w' with heap:=w'.heap.setIfInBounds i.heap.size (.loop {r with state:=.exhausted,pending:=r.pending})}:=by
    have eh:(r.state==.busy)=false:=by cases hs:r.state<;>rw[hs]at g1<;>cases st<;>simp_all[qG]
    simp only[Instr.endLoop,Sem.run_bind,BF C,Result.andThen_ok,eh,aes,bP,Sem.run_pure];have:(setObj i.heap.size (.loop {r with state:=.exhausted})).run P w'=_:=s1;rw[this];rfl
   have I:step P (lone (b.atR a (.code (.rangeFunc f q as B)::k)) cs w)=.next (lone bb bc w2):=by
    refine step_lone_go ?_;rw[<-hb];have Q:=Frame.eval_atR b {a with defers:=mark++a.defers} (.inRangeFunc i.heap.size::k);simp only[Frame.atR]at Q;have a3:(({a with defers:=mark++a.defers}:Act)).eval=a.eval:=by funext x;cases x<;>rfl
    rw[a3]at Q;have a4:(do let d<-resolve a.eval {callee:=.value f,args:= #[.const (.func (.yield i.heap.size) #[] #[])],argTypes:= #[]} 0;invoke d.target d.args)=pS (a.eval f) #[.func (.yield i.heap.size) #[] #[]]:=by simp[pS,resolve,Act.eval]
    simp only[stepG,stepG.exec,Frame.atR,Sem.runT_eq,a0,GStep.bare_after,Q,a4]
   have V:zG k cB ((r.pending.map Item.code).toList++k):=by cases hp:r.pending with|none=>rw[hp]at N;cases cB<;>simp_all[qH,zG]|some cc=>rw[hp]at N;cases cB with|none=>simp[qH]at N|exit id=>cases cc<;>simp only[qH]at N;subst N;exact⟨k,rfl,rfl⟩|ret=>cases cc<;>simp only[qH]at N;exact⟨k,rfl⟩
   refine⟨cB,fr1,_,bd,{a with defers:=mark++a.defers},_,_,bv.2,s.trans (M.trans m),(Z.mono M).mono m,s2,a9.trans (q3.trans (T.trans s3)),V,.head I (hs.trans (.one (stepR_endRangeFunc a2)))⟩
  exact hK.elim
 simp only[exec]at he;cases C:b.roundOf with
 |none=>
  have o:fr.bG=none:=by have:=L.R;rw[C]at this;cases h:fr.bG<;>rw[h]at this<;>simp_all[pQ]
  rw[o]at he;simp only at he;have s:cL z (z.add H.next w.heap.size 0 (0,0)):=aP.sR _ _ _ (X.eo _ (afb _)).2 (λj c y e hc=>by have:=X.fH j c y e;omega);obtain⟨M,q2,q3⟩:=X.alloc (o:=.deferred false) (ob:=.deferred (some [])) (0,0) (by simp[gS]) aB rfl (by simp[OR]);refine J (fr1:=⟨fr.aa,H.next::fr.bI,none⟩) (mark:=[{target:=.collected w.heap.size,args:= #[]}]) (d:=H.next) (bd':=w.heap.size) M q3 q2 ⟨L.E.mono M,?_,?_⟩ (aP.fP ..) rfl ?_ he;·simp only[akV,ak0,mP];refine⟨?_,L.D.mono M⟩;exact⟨w.heap.size,aP.fP ..,rfl⟩
  .simp only[C,pQ]
  simp only[C,Instr.enterLoop,Sem.run_bind,run_newObj,Result.andThen_ok,Sem.run_pure]
 |some l=>
  obtain⟨Y,o⟩:∃Y,fr.bG=some Y:=by have:=L.R;rw[C]at this;cases h:fr.bG with|none=>rw[h]at this;simp[pQ]at this|some Y=>exact⟨Y,rfl⟩
  have b0:z Y=some (l,0):=by have:=L.R;rw[C,o]at this;exact this
  rw[o]at he;simp only at he;split at he;·rename_i st cB fn aa av aw ax d' hl;obtain⟨r,_,b3,_,_,g3,_⟩:=zK X hl b0;refine J (mark:=[]) (d:=d') (bd':=r.defers) (cL.refl z) (eC.refl W w) X (by simpa using L) g3 rfl ?_ he;simp[Instr.enterLoop,C,BF b3]
  exact he.elim
theorem Steps.TE{m b a:Machine}(h:Steps P m a)(hs:step P m=.next b)(d:a≠m):Steps P b a:=by obtain⟨n,c⟩:=h;cases n with|zero=>simp_all[runN,Stepped.next.injEq,absurd]|succ n=>simp only[runN,hs]at c;exact⟨n,c⟩
theorem TF{ac:Nat->aG}(ht:kr P ac){n:Nat}(o:zI P ac n)(M:DN P ac n)(I:LZ P ac n)(J:uJ P ac n):zI P ac (n+1):=by
 intro Wr O H w nt fr c cc K b a d he A B k cs;induction cc generalizing k c with
 |skip=>simp only[eX,adG]at d;subst d;simp only[exec]at he;exact .iY (.one stepR_skip) (.DO A B he k cs)
 |label l=>simp only[eX,adG]at d;subst d;simp only[exec]at he;exact .iY (.one stepR_label) (.DO A B he k cs)
 |region id aC N=>
  simp only[eX,aho]at d;obtain⟨l,hl,rfl⟩:=d;simp only[exec]at he;cases N with
  |false=>refine .iY (.one stepR_region) ((M (TC hl) he A B k cs).mono ?_);rintro j fr H⟨h1,h2⟩;cases j<;>first|exact h2|exact h1.elim
  |true=>refine(I hl he A B k cs).mono ?_;rintro j fr H⟨h1,h2⟩;cases j<;>first|exact h2|exact h1.elim
 |seq x y Y Z=>
  simp only[eX]at d;split at d
  .rename_i V a5 F Q;injection d with d;split at d
   .rename_i t ag;subst d;simp only[exec]at he;split at he
    .rename_i g hg;split at he;·rename_i a4 v av;refine(ht.ez t g hg F Q (Ov.R7 _ _ ag).symm av A B k cs).mono ?_;rintro j fr1 H1⟨rfl,rfl,rfl⟩;exact he
     exact he.elim
    exact he.elim
   subst d;simp only[exec]at he;obtain⟨j,q,v,r,C,D,t,h1,h2,h3,s,u,z,G⟩:=o F he A B (.code y::k) cs;refine .iY (.one stepR_seq) (.iY G ?_);cases j with|none=>rw[show t=.code y::k from z];exact .vS h2 u (o Q h1 h3 s k cs)|exit id=>exact⟨.exit id,q,v,r,C,D,t,h1,h2,h3,s,u,z.sX (λ_ _=>rfl) trivial,Steps.refl _ _⟩|ret=>exact⟨.ret,q,v,r,C,D,t,h1,h2,h3,s,u,z.sX (λ_ _=>rfl) trivial,Steps.refl _ _⟩
  cases d
 |cond c0 x y Y Z=>
  simp only[eX]at d;split at d
  .rename_i oc V a5 h0 F Q;injection d with d;subst d;simp only[exec]at he;have R:=zA h0 A.E B;split at he;·rename_i h;rw[h]at R;exact .iY (.one (stepR_cond R.rO)) (o F he A B k cs)
   .rename_i h;rw[h]at R;exact .iY (.one (stepR_cond R.rO)) (o Q he A B k cs)
   exact he.elim
  cases d
 |block id x W=>
  simp only[eX,aho]at d;obtain⟨V,F,rfl⟩:=d;simp only[exec]at he;obtain⟨j,q,v,r,C,D,t,h1,h2,h3,s,u,z,G⟩:=o F he A B (.inBlock id::k) cs;refine .iY (.one stepR_block) (.iY G ?_);cases j with
  |none=>rw[show t=.inBlock id::k from z];exact .iY (.one stepR_inBlock) ⟨.none,q,v,r,C,D,k,h1,h2,h3,s,u,rfl,Steps.refl _ _⟩
  |exit i=>
   obtain⟨S,rfl,L⟩:=z;simp only at h1;split at h1
   .rename_i hi;have hi:=aj4 hi;subst hi;have:exitTo i S=some k:=by rw[L];simp[exitTo]
    exact .iY (.one (stepR_exit this)) ⟨.none,q,v,r,C,D,k,h1,h2,h3,s,u,rfl,Steps.refl _ _⟩
   rename_i hi;have aw:(id==i)=false:=by have:¬id=i:=λe=>hi (by subst e;exact ald _);simpa using this
   exact⟨.exit i,q,v,r,C,D,_,h1,h2,h3,s,u,⟨S,rfl,by rw[L];simp[exitTo,aw]⟩,Steps.refl _ _⟩
  |ret=>exact⟨.ret,q,v,r,C,D,t,h1,h2,h3,s,u,z,Steps.refl _ _⟩
 |loop x W=>have ax:=d;simp only[eX,aho]at d;obtain⟨V,F,rfl⟩:=d;simp only[exec]at he;obtain⟨j,q,v,r,C,D,t,h1,h2,h3,s,u,z,G⟩:=o F he A B (.inLoop x::k) cs;refine .iY (.one stepR_loop) (.iY G ?_);cases j with|none=>rw[show t=.inLoop x::k from z];obtain⟨j2,ay,H2,a0,a6,w2,X,e1,e2,e3,e4,e5,T,e7⟩:=o ax h1 h3 s k cs;have hs:=Steps.TE e7 stepR_loop (by intro e;have:X=.code (.loop x)::k:=congrArg (λm:Machine=>(m.gs.getD 0 (default:Goroutine)).frame.todo) e;cases j2 with|none=>have h:=T;rw[show X=k from h]at this;have:=congrArg List.length this;simp at this|exit id=>obtain⟨S,h,_⟩:=T;rw[h]at this;cases this|ret=>obtain⟨S,h⟩:=T;rw[h]at this;cases this);exact⟨j2,ay,H2,a0,a6,w2,X,e1,h2.trans e2,e3,e4,u.trans e5,T,.head stepR_inLoop hs⟩|exit id=>exact⟨.exit id,q,v,r,C,D,t,h1,h2,h3,s,u,z.sX (λ_ _=>rfl) trivial,Steps.refl _ _⟩|ret=>exact⟨.ret,q,v,r,C,D,t,h1,h2,h3,s,u,z.sX (λ_ _=>rfl) trivial,Steps.refl _ _⟩
 |scope x W=>simp only[eX]at d;obtain⟨j,q,v,r,C,D,t,h1,h2,h3,s,u,z,G⟩:=W d he (.inScope x::k);refine .iY (.one L8) (.iY G ?_);cases j with|none=>rw[show t=.inScope x::k from z];exact .iY (.one L9) ⟨.none,q,v,r,C,D,k,h1,h2,h3,s,u,rfl,Steps.refl _ _⟩|exit id=>exact⟨.exit id,q,v,r,C,D,t,h1,h2,h3,s,u,z.sX (λ_ _=>rfl) trivial,Steps.refl _ _⟩|ret=>exact⟨.ret,q,v,r,C,D,t,h1,h2,h3,s,u,z.sX (λ_ _=>rfl) trivial,Steps.refl _ _⟩
 |rangeFunc f ps as bd=>
  simp only[eX]at d;split at d
  .rename_i of a8 a9 h0 a1 a2;split at d;·rename_i a3;injection d with d;subst d;exact TD J h0 a1 a2 (λp hp=>by have:=aln.1 a3 p hp;simpa using this) he A B k cs
   cases d
  cases d
 |exit id=>simp only[eX,adG]at d;subst d;simp only[exec]at he;exact⟨.exit id,fr,H,O,a,w,_,he,cL.refl O,A,B,eC.refl Wr w,⟨k,rfl,rfl⟩,Steps.refl _ _⟩
 |ret=>simp only[eX,adG]at d;subst d;simp only[exec]at he;exact⟨.ret,fr,H,O,a,w,_,he,cL.refl O,A,B,eC.refl Wr w,⟨k,rfl⟩,Steps.refl _ _⟩
 |goto l=>simp[eX]at d
 |refuse a'=>simp[eX]at d
end
section
variable{P:Program}
theorem TG{ac:Nat->aG}(ht:kr P ac){n:Nat}(i:zI P ac n):uJ P ac (n+1):=by
 intro Wr X H w fa args K fv argv he hf ha hI fr cs hat;simp only[io]at he;split at he
 .rename_i f first e;obtain⟨x,y,hx,hy,rfl⟩:=hf.Dy;have eZ:bj X (first++args++e) ((x++argv++y).toList):=by simp only[Array.toList_append];exact bj.append (bj.append hx ha) hy
  have I:pS (.func (.func f) x y) argv=callFunc f (x++argv++y):=by simp[pS,Deferred.ofValue,invoke]
  split at he;·exact he.elim
  .exact he.elim
  .rename_i g hg;split at he;·rename_i v H' a5;obtain⟨v',cf,c,L,fr1,a6,V,⟨rfl,rfl⟩,hp,hb,hs⟩:=ht.ix f g hg a5 eZ hI fr cs hat;exact⟨_,_,c,L,fr1,a6,V,he,hp,hb,hs⟩
   exact he.elim
  rename_i nt rs body hg;obtain⟨fn,N,Y,R⟩:=ht.code f nt rs body hg;split at he;case isFalse=>exact he.elim
  rename_i O;have O:=akc O;simp only[uA,ae5,aed,ajB,adG,aG.code.injEq]at Y;obtain⟨cc,Z,b6,S,a8,a9,e1,e2,e3⟩:=Y;subst e1;subst e2;subst e3;have o:(callFunc f (x++argv++y)).run P w=.ok (.enter f (x++argv++y)) w:=by simp only[callFunc,Sem.run_bind,run_program,Result.andThen_ok,N,R,Z,Option.isNone_some,aes,bP,Sem.run_pure]
  let b:Frame:={(default:Frame)with fn:=f,kind:=.normal};let a:Act:={tmps:=(x++argv++y)++alH (fn.ntmps - (x++argv++y).size) undef,defers:=[]};have z:Frame.enter P f (x++argv++y) .normal=b.atR a [.code cc]:=by simp only[Frame.enter,Frame.atR,N,Z,b,a,akt,akQ,alr];rfl
  have hF:iM X fn.ntmps ⟨kJ (first++args++e) .xH .aL,[],none⟩ b.roundOf a:=⟨GW eZ O,trivial,trivial⟩;obtain⟨j,ag,H',ba,a',L,t,h1,h2,h3,h4,h5,h6,h7⟩:=i S he hF hI [] (fr::cs);have a1:∃M:Frame,M={b.atR a' M.todo with mode:=.returning}/\step P (lone (b.atR a' t) (fr::cs) L)=.next (lone M (fr::cs) L):=by cases j with|none=>rw[show t=[]from h6];exact⟨_,rfl,stepR_end rfl⟩|exit id=>exact h1.elim|ret=>obtain⟨k0,rfl⟩:=h6;exact⟨_,rfl,stepR_ret rfl⟩
  obtain⟨M,k,eh⟩:=a1;have m:(match jN H' ag.bI with
   |some H=>match gZ ag.aa H a8 with|some l=>K (iL l) H|none=>False
   |none=>False):=by cases j with|none=>exact h1|exit id=>exact h1.elim|ret=>exact h1
  split at m
  .rename_i H2 hm;split at m
   .rename_i l hl;have a2:M={M with defers:=a'.defers}:=by rw[k];rfl
    obtain⟨G,s1,s2,s3⟩:=DL h4 h3.D hm M (fr::cs) (by rw[k]);rw[<-a2]at s1;obtain⟨c,hc,hv⟩:=GZ s2 h3.E a9 hl;refine⟨iL l,H2,c,G,_,_,_,m,⟨ba,h2,hv,s2,h5.trans s3⟩,LS hat o,?_⟩;rw[z];refine h7.trans (.head eh (s1.trans (.one ?_)));refine step_leave_returned ⟨by rw[k],rfl,by rw[k];rfl,fn,by rw[k];exact N,?_⟩;rw[k];exact hc
   exact m.elim
  exact m.elim
 .rename_i l;obtain⟨bl,Q,rfl⟩:=hf.Dz;have I:pS (.func (.yield bl) #[] #[]) argv=Instr.yield bl argv:=by simp[pS,Deferred.ofValue,invoke]
  rw[I];split at he
  .rename_i st cB cn aa ps as c5 d hl;obtain⟨r,_,hr,g1,g2,g3,g4,nt,g5,g6,g7,g8⟩:=zK hI hl Q;split at he
   .split at he;case isFalse=>exact he.elim
    rename_i q;have bb:argv.size=r.params.size:=by have e1:=bj.length ha;rw[<-g4]at q;simp at e1 q;omega
    have o:(Instr.yield bl argv).run P w=.ok (.round bl r.fn ((r.params.zip argv).foldl (λtmps(t,a)=>tmps.setIfInBounds t a) r.tmps) r.assign r.body) w:=by simp only[Instr.yield,Sem.run_bind,BF hr,Result.andThen_ok,bb,ne_eq,not_true_eq_false,bP,Sem.run_pure]
    let b:Frame:={(default:Frame)with fn:=r.fn,kind:=.normal,roundOf:=some bl};let a:Act:={tmps:=(r.params.zip argv).foldl (λtmps(t,a)=>tmps.setIfInBounds t a) r.tmps,defers:=[]};have A:Frame.round bl r.fn a.tmps r.assign r.body .normal=b.atR a [.code r.assign,.beginRound,.code r.body]:=rfl;have hE:jg X nt (ph ps args aa) a.tmps:=by
     have:=LW (ps:=r.params.toList) g5 ha (by rw[q,<-g4,akg]);rw[g4]at this;have e2:a.tmps=(r.params.toList.zip argv.toList).foldl (λtmps(p:Tmp×Value)=>tmps.setIfInBounds p.1 p.2) r.tmps:=by show(r.params.zip argv).foldl _ _=_;rw[<-Array.foldl_toList,Array.toList_zip]
     rw[e2];exact this
    have hF:iM X nt ⟨ph ps args aa,[],some l⟩ b.roundOf a:=⟨hE,trivial,Q⟩;obtain⟨j,fr1,H1,cp,c8,V,t,h1,h2,h3,h4,h5,h6,h7⟩:=i g7 he hF hI [.beginRound,.code r.body] (fr::cs);split at h1
    .rename_i T bc cd cv rR cx d1 av;rw[show t=[.beginRound,.code r.body]from h6]at h7;have s:=(h2 _ _ Q).1;obtain⟨W,_,aw,q1,q2,q3,q4,cy,q5,q6,q7,q8⟩:=zK h4 av s;obtain⟨s1,s2,s3⟩:=G1 h4 av s aw (st':=.busy) (s':=.busy) (pend':=T) (p':=W.pending) (by simp[qG]) q2 bc;have B:W.state=.ready:=by cases hs:W.state<;>rw[hs]at q1<;>simp_all[qG]
     have C:(Instr.beginRound bl).run P V=.ok () {V with heap:=V.heap.setIfInBounds bl (.loop {W with state:=.busy,pending:=W.pending})}:=by simp only[Instr.beginRound,Sem.run_bind,BF aw,Result.andThen_ok];have:(setObj bl (.loop {W with state:=.busy})).run P V=_:=s1;rw[this];simp only[Result.andThen_ok,B,Sem.run_pure]
     obtain⟨j2,cE,H2,bd,ca,G,t2,e1,e2,e3,e4,e5,e6,e7⟩:=i g8 h1 h3 s2 [] (fr::cs);have F:Steps P (lone (Frame.round bl r.fn a.tmps r.assign r.body .normal) (fr::cs) w) (lone (b.atR ca t2) (fr::cs) G):=by rw[A];exact h7.trans (.head (stepR_beginRound rfl C) e7)
     split at e1
     .rename_i c3 b' ax a3 bv b0 b3 d2 ay;have J:=(e2 _ _ s).1;obtain⟨r2,_,a0,z1,z2,z3,z4,z5⟩:=zK e4 ay J;have aA:∀(j:cP)(u:Option Code)(st':sK)(s':LoopState),qG st' s'->qH j u->s'=(if u.isNone then .ready else .done)->K (.bool u.isNone) (H2.set l (.loop st' j ax a3 bv b0 b3 d2))->(∀{v:Value}{L:World},(Instr.endRound bl u).run P G=.ok v L->step P (lone (b.atR ca t2) (fr::cs) G)=.next (lone (fr.finish v) cs L))->zH P Wr X w (Instr.yield bl argv) fr cs K:=by
       intro j u st' s' y1 y2 y3 y4 y5;obtain⟨u1,u2,u3⟩:=G1 e4 ay J a0 (st':=st') (s':=s') (pend':=j) (p':=u) y1 y2 ax;have a4:(Instr.endRound bl u).run P G=.ok (.bool u.isNone) {G with heap:=G.heap.setIfInBounds bl (.loop {r2 with state:=s',pending:=u})}:=by simp only[Instr.endRound,Sem.run_bind,BF a0,Result.andThen_ok,<-y3,u1,Sem.run_pure]
       exact⟨_,_,.bool u.isNone,_,_,_,_,y4,⟨bd,h2.trans e2,by simp[VR],u2,h5.trans (s3.trans (e5.trans u3))⟩,Tz hat o,F.trans (.one (y5 a4))⟩
      cases j2 with|none=>have b4:t2=[]:=e6;subst b4;exact aA .none none .ready .ready (by simp[qG]) (by simp[qH]) rfl e1 (λh=>stepR_round_end rfl rfl h)|exit id=>obtain⟨k0,rfl,b5⟩:=e6;exact aA (.exit id) (some (.exit id)) .done .done (by simp[qG]) (by simp[qH]) rfl e1 (λh=>stepR_round_exit rfl rfl b5 h)|ret=>obtain⟨k0,rfl⟩:=e6;exact aA .ret (some .ret) .done .done (by simp[qG]) (by simp[qH]) rfl e1 (λh=>stepR_round_ret rfl rfl h)
     exact e1.elim
    exact h1.elim
   exact he.elim
  exact he.elim
 exact he.elim
end
section
variable{P:Program}{aa env':ap AV}{H H1 H':ai}{v:AV}
theorem mr:∀{x:aJ},(∀p∈x.cQ,aa.get .alR p=env'.get .alR p)->gv aa x=gv env' x|.t p,h=>h p (by simp[aJ.cQ])|.c _,_=>rfl
theorem DP:∀{l:List aJ},(∀p∈l.flatMap aJ.cQ,aa.get .alR p=env'.get .alR p)->l.map (gv aa)=l.map (gv env')|[],_=>rfl|x::l,h=>by simp only[alp,ahp]at h;simp only[aj7,mr (x:=x) λp a=>h p (.inl a),DP (l:=l) λp a=>h p (.inr a)]
theorem xF{x:Option aJ}(h:∀p∈zq x,aa.get .alR p=env'.get .alR p)(d y:Nat):jz aa x d y=jz env' x d y:=by cases x with|none=>rfl|some x=>simp only[jz,mr (x:=x) h]
theorem G2:∀{a:List (Nat×Nat×aJ)},(∀p∈a.flatMap (λp=>p.2.2.cQ),aa.get .alR p=env'.get .alR p)->∀l,oI aa l a=oI env' l a
 |[],_,_=>rfl
 |(off,size,x)::a,h,l=>by
  simp only[alp,ahp]at h;simp only[oI,mr (x:=x) λp b=>h p (.inl b)];split
  .split;·exact G2 (λp b=>h p (.inr b)) _
   rfl
  rfl
theorem G3{op:bW}(h:∀p∈op.cQ,aa.get .alR p=env'.get .alR p)(H:ai):aE op aa H=aE op env' H:=by
 cases op<;>simp only[bW.cQ,ahp]at h;case build i j=>grind[aE,G2]
 case buildSlice e n i j=>grind[aE,G2]
 case iP f a b=>grind[aE,DP]
 case qD b l=>grind[aE,DP]
 case zc n s x a b c=>simp only[aE,mr (x:=x) λp g=>h p (.inl g),xF (x:=a) λp g=>h p (.inr (.inl g)),xF (x:=b) λp g=>h p (.inr (.inr (.inl g))),xF (x:=c) λp g=>h p (.inr (.inr (.inr g)))]
 case im e s x a b c=>simp only[aE,mr (x:=x) λp g=>h p (.inl g),xF (x:=a) λp g=>h p (.inr (.inl g)),xF (x:=b) λp g=>h p (.inr (.inr (.inl g))),xF (x:=c) λp g=>h p (.inr (.inr (.inr g)))]
 case xi x a b=>grind[aE,mr,xF]
 case pick c a b=>grind[aE,mr]
 case jy d m k v=>simp only[aE,mr (x:=m) λp g=>h p (.inl g),mr (x:=k) λp g=>h p (.inr (.inl g)),mr (x:=v) λp g=>h p (.inr (.inr g))]
 case entryStore m k v=>simp only[aE,mr (x:=m) λp g=>h p (.inl g),mr (x:=k) λp g=>h p (.inr (.inl g)),mr (x:=v) λp g=>h p (.inr (.inr g))]
 all_goals first|rfl|(simp only[aE,mr h];done)|(rename_i x y;simp only[aE,mr (x:=x) λp g=>h p (.inl g),mr (x:=y) λp g=>h p (.inr g)];done)
theorem TH{op:bW}(f:op.plain=true)(he:aE op aa H=some (v,H1)):H1=H/\∀H',aE op aa H'=some (v,H'):=by
 cases op<;>(try(simp[bW.plain]at f;done));case im e s x lo hi g=>
  cases lo with
  |some q=>simp[bW.plain]at f
  |none=>
   simp only[aE,Option.isNone_none,Bool.or_true,Bool.true_or,bq]at he⊢;split at he;·simp only[ae5,aed,adG,aj1]at he;obtain⟨m,e1,d,e2,l,c,rfl,rfl⟩:=he;exact⟨rfl,λH'=>by simp[e1,e2,c]⟩
   .simp only[ae5,aed,adG,aj1]at he;obtain⟨m,e1,d,e2,l,c,rfl,rfl⟩:=he;exact⟨rfl,λH'=>by simp[e1,e2,c]⟩
   cases he
 case xi x a b=>
  simp only[aE]at he⊢;split at he;·simp only[ae5,aed,adG,aj1]at he;obtain⟨d,e2,l,c,rfl,rfl⟩:=he;exact⟨rfl,λH'=>by simp[e2,c]⟩
  cases he
 case nu x a=>
  simp only[aE]at he⊢;split at he;·rw[aho]at he;obtain⟨q,h1,h2⟩:=he;rw[aj1]at h2;obtain⟨rfl,rfl⟩:=h2;exact⟨rfl,λH'=>by rw[h1];rfl⟩
  cases he
 all_goals simp only[aE]at he⊢;first|(simp only[adG,aj1]at he;obtain⟨rfl,rfl⟩:=he;exact⟨rfl,λ_=>rfl⟩)|(simp only[aho,aj1]at he;obtain⟨a,h1,rfl,rfl⟩:=he;exact⟨rfl,λ_=>by simp[h1]⟩)|(split at he<;>first|(cases he;done)|(simp only[adG,aj1]at he;obtain⟨rfl,rfl⟩:=he;exact⟨rfl,λ_=>rfl⟩)|(simp only[aho,aj1]at he;obtain⟨a,h1,rfl,rfl⟩:=he;exact⟨rfl,λ_=>by simp[h1]⟩)|(simp only[ae5,aed,adG,aj1]at he;obtain⟨m,e1,d,e2,l,c,rfl,rfl⟩:=he;exact⟨rfl,λH'=>by simp[e1,e2,c]⟩)|(simp only[ae5,aed,adG,aj1]at he;obtain⟨d,e2,l,c,rfl,rfl⟩:=he;exact⟨rfl,λH'=>by simp[e2,c]⟩)|(split at he<;>first|(cases he;done)|(simp only[adG,aj1]at he;obtain⟨rfl,rfl⟩:=he;exact⟨rfl,λ_=>by simp[*]⟩)|(simp only[aho,aj1]at he;obtain⟨a,h1,rfl,rfl⟩:=he;exact⟨rfl,λ_=>by simp[*]⟩)|(split at he<;>first|(cases he;done)|(simp only[adG,aj1]at he;obtain⟨rfl,rfl⟩:=he;exact⟨rfl,λ_=>by simp[*]⟩))))
def bW.target(aa:ap AV):bW->Option ab
 |.aW a|.gw _ a|.xj a|.xg a=>jq (gv aa a)
 |.lookup _ _ _ m _=>jq (gv aa m)
 |.im _ _ x _ _ b=>match gv aa x with
  |.slice id _ _ _ false=>if b.isSome then none else some id
  |_=>none
 |_=>none
theorem Ma{id:ab}{off n:Nat}{l:List AV}(h:fE H id off n=some l):H.get id≠.none/\∀H',H'.get id=H.get id->fE H' id off n=some l:=by grind[fE]
theorem Mb{a:AV}{n:Nat}{g:Bool}(h:jp H a n g=some v):∃id off,a=.az id off/\H.get id≠.none/\∀H',H'.get id=H.get id->jp H' a n g=some v:=by
 unfold jp at h⊢;split at h
 .rename_i id off;split at h;·rename_i l hl;obtain⟨h1,h2⟩:=Ma hl;grind
  grind
 grind
theorem Mc{op:bW}(p:op.kp=true)(he:aE op aa H=some (v,H1)):H1=H/\(∀j,op.target aa=some j->H.get j≠.none)/\∀H',(∀j,op.target aa=some j->H'.get j=H.get j)->aE op aa H'=some (v,H'):=by
 cases op<;>(try(simp[bW.kp]at p;done));case aW a=>simp only[aE,aho,aj1]at he⊢;obtain⟨q,h1,rfl,rfl⟩:=he;obtain⟨id,off,r,h2,h3⟩:=Mb h1;refine⟨rfl,λj hj=>?_,λH' hj=>⟨q,h3 H' (hj id ?_),by rfl,aB⟩⟩;all_goals simp_all[bW.target,jq,adG]
 case gw n a=>simp only[aE,aho,aj1]at he⊢;obtain⟨q,h1,rfl,rfl⟩:=he;obtain⟨id,off,r,h2,h3⟩:=Mb h1;refine⟨rfl,λj hj=>?_,λH' hj=>⟨q,h3 H' (hj id ?_),by rfl,aB⟩⟩;all_goals simp_all[bW.target,jq,adG]
 case xj x=>
  simp only[aE]at he⊢;split at he;·rename_i b;obtain⟨rfl,rfl⟩:=he;refine⟨rfl,λj hj=>?_,λH' hj=>by rfl⟩;simp_all[bW.target,jq]
  .rename_i id b;split at he;·rename_i hi;obtain⟨rfl,rfl⟩:=he;refine⟨rfl,λj hj=>?_,λH' hj=>?_⟩;all_goals simp_all[bW.target,jq,adG]
   .rename_i hi;obtain⟨rfl,rfl⟩:=he;refine⟨rfl,λj hj=>?_,λH' hj=>?_⟩;all_goals simp_all[bW.target,jq,adG]
   grind
  grind
 case xg x=>
  simp only[aE]at he⊢;split at he;·rename_i b;obtain⟨rfl,rfl⟩:=he;refine⟨rfl,λj hj=>?_,λH' hj=>by rfl⟩;simp_all[bW.target,jq]
  .rename_i id off len c e b;split at he;·rename_i l hl;simp only[aho,aj1]at he;obtain⟨q,h1,rfl,rfl⟩:=he;obtain⟨h2,h3⟩:=Ma hl;refine⟨rfl,λj hj=>?_,λH' hj=>?_⟩;all_goals simp_all[bW.target,jq,adG]
   grind
  grind
 case lookup d z ok m k=>
  simp only[aE]at he⊢;split at he;·cases he
  rename_i f;split at he;·rename_i b;simp only[adG,aj1]at he;obtain⟨rfl,rfl⟩:=he;refine⟨rfl,λj hj=>?_,λH' hj=>by simp[b,f]⟩;simp[bW.target,b,jq]at hj
  .rename_i id b;have i:bW.target aa (.lookup d z ok m k)=some id:=by simp only[bW.target,b,jq]
   split at he;all_goals(try(cases he;done))
   all_goals
    rename_i hi;refine⟨?_,λj hj=>?_,λH' hj=>?_⟩;·split at he<;>first|(cases he;done)|(simp only[adG,aj1]at he;exact he.2.symm)
    .rw[i]at hj;injection hj with hj;subst hj;rw[hi];simp
    have:=hj id i;simp only[b,f,this,hi,aes,bP];split at he<;>first|(cases he;done)|(simp only[adG,aj1]at he;rename_i t;simp only[t,he.1])
  cases he
 case im e s x lo hi o=>
  simp only[aE]at he⊢;split at he;·rename_i b;simp only[ae5,aed,adG,aj1]at he;obtain⟨m,e1,u,e2,l,w,rfl,rfl⟩:=he;refine⟨rfl,λj hj=>?_,λH' hj=>by grind⟩;simp_all[bW.target]
  .rename_i id off len cap ex b;simp only[ae5,aed]at he;obtain⟨m,e1,u,e2,l,w,he⟩:=he;split at he
   .rename_i h;obtain⟨rfl,rfl⟩:=he;refine⟨rfl,λj hj=>?_,λH' hj=>?_⟩
    .cases lo with
     |none=>trivial
     |some lo=>
      simp only[bW.target,b]at hj;cases ex with
      |true=>grind
      |false=>
       simp only at hj;split at hj;·grind
       rename_i g;injection hj with hj;subst hj;simp only[Bool.false_or,Option.isNone_some,Bool.or_false,alf,g,false_or]at h;grind[sM]
    have y:(ex||o.isSome||lo.isNone||sM H' id e)=true:=by cases ex with|true=>simp|false=>cases g:o.isSome with|true=>simp|false=>rw[g]at h;have:=hj id (by simp[bW.target,b,g]);simpa[sM,this]using h
    grind
   grind
  grind
inductive mu where
 |az
 |slice(len cap:Nat)(exact:Bool)
 |map
def mu.of(n:mu)(i:ab):AV:=
 match n with
 |.az=>.az i 0
 |.slice l c e=>.slice i 0 l c e
 |.map=>.map i
theorem mu.name(n:mu)(i:ab):jq (n.of i)=some i:=by cases n<;>rfl
def cq.mw:cq->Prop
 |.cells _ _ _ rw aM _=>rw=true/\aM=[]
 |.map es _=>es=[]
 |.pf _ _ _=>True
 |_=>False
theorem TI{op:bW}(d:op.mO=true)(he:aE op aa H=some (v,H1)):∃(n:mu)(eF:cq),v=n.of H.next/\H1=H.new eF/\eF.mw/\∀H',aE op aa H'=some (n.of H'.next,H'.new eF):=by
 cases op<;>(try(simp[bW.mO]at d;done));case alloc e a=>simp only[aE,adG,aj1]at he⊢;obtain⟨rfl,rfl⟩:=he;exact⟨.az,_,rfl,rfl,⟨rfl,rfl⟩,λ_=>⟨rfl,rfl⟩⟩
 case jK=>simp only[aE,adG,aj1]at he⊢;obtain⟨rfl,rfl⟩:=he;exact⟨.map,_,rfl,rfl,rfl,λ_=>⟨rfl,rfl⟩⟩
 case box e x=>
  simp only[aE]at he⊢;split at he;·rename_i h1;obtain⟨rfl,rfl⟩:=he;exact⟨.az,_,rfl,rfl,⟨rfl,rfl⟩,λ_=>by simp only[h1,bq];rfl⟩
  grind
 case buildSlice e n a f=>
  simp only[aE]at he⊢;split at he
  .split at he;·rename_i h1;obtain⟨rfl,rfl⟩:=he;exact⟨.slice n n true,_,rfl,rfl,⟨rfl,rfl⟩,λ_=>by simp only[h1,bq];rfl⟩
   grind
  grind
 case xf e x=>
  simp only[aE]at he⊢;split at he;·rename_i s hs;obtain⟨rfl,rfl⟩:=he;exact⟨.slice s.length s.length false,_,rfl,rfl,⟨rfl,rfl⟩,λ_=>rfl⟩
  grind
 case jL e b s a x y=>
  simp only[aE]at he⊢;split at he
  .rename_i l c hl g;split at he;·rename_i h1;obtain⟨rfl,rfl⟩:=he;exact⟨.slice l c true,_,rfl,rfl,⟨rfl,rfl⟩,λ_=>by simp only[h1,bq];rfl⟩
   grind
  grind
 case rF x=>
  simp only[aE]at he⊢;split at he;·obtain⟨rfl,rfl⟩:=he;exact⟨.az,_,rfl,rfl,trivial,λ_=>rfl⟩
  grind
theorem TJ{a b:AV}(h:iy a b=true):a=b:=by
 have h1:∀{a b:AV},gz a b=true->a=b:=by intro a b h;cases a<;>cases b<;>simp only[gz,aes]at h<;>first|rfl|(simp only[beq_iff_eq]at h;rw[h])|(simp only[aj6,Nat.beq_eq,fQ,beq_iff_eq]at h;obtain⟨rfl,rfl⟩:=h;rfl)|(simp only[vN,beq_iff_eq]at h;rw[h])|(simp only[aj6,Nat.beq_eq,ab.ip]at h;obtain⟨rfl,rfl⟩:=h;rfl)|(simp only[ab.ip]at h;rw[h])|(simp only[aj6,Nat.beq_eq,ab.ip,beq_iff_eq]at h;obtain⟨⟨⟨⟨rfl,rfl⟩,rfl⟩,rfl⟩,rfl⟩:=h;rfl)
 have h2:∀{l m:List AV},pg l m=true->l=m:=by intro l;induction l with|nil=>intro m h;cases m<;>simp[pg]at h;rfl|cons a l c=>intro m h;cases m with|nil=>simp[pg]at h|cons b m=>simp only[pg,aj6]at h;rw[h1 h.1,c h.2]
 unfold iy at h;split at h;·grind
 .grind
 .simp only[aj6,Nat.beq_eq]at h;grind
 grind
end
section
variable{P:Program}{h:cU}{ρ:aP}{H:ai}{w:World}
theorem G4{H a:ai}(hg:∀j,a.get j=H.get j\/a.get j=.none)(i j:ab)(hi:i∈(a.get j).aM):i∈(H.get j).aM:=by
 rcases hg j with e|e;·rw[e]at hi;exact hi
 rw[e]at hi;cases hi
theorem bz.sub(l:bz P h ρ H w){H2:ai}(d:H2.next=H.next)(hg:∀j,H2.get j=H.get j\/H2.get j=.none):bz P h ρ H2 w:=by
 have a:∀j,H2.get j≠.none->H2.get j=H.get j:=λj hj=>(hg j).resolve_right hj;have f:=G4 hg;constructor;·intro i hi;have e:=a i hi;rw[e]at hi⊢;exact l.eF i hi
 .intro i j b x y c hi hj;have e:=a i hi;have g:=a j hj;rw[e]at hi⊢;rw[g]at hj⊢;exact l.k6 i j b x y c hi hj
 .intro i j hi;obtain⟨h1,h2⟩:=l.aM i j (f i j hi);grind
 .intro i b x hi;have e:=a i hi;rw[e]at hi⊢;exact l.wr i b x hi
 .intro i hi;rw[d]at hi;obtain⟨h1,h2⟩:=l.eo i hi;exact⟨by rcases hg i with e|e<;>rw[e];exact h1,h2⟩
 .exact l.new
 .exact l.mq
 .intro i b x k hi;have e:=a i hi;rw[e]at hi⊢;exact l.ka i b x k hi
 .exact l.fH
 .intro i b x hi;have e:=a i hi;rw[e]at hi;exact l.rd i b x hi
 .intro i hi;obtain⟨h1,h2,h3⟩:=l.un i hi;exact⟨by rcases hg i with e|e<;>rw[e];exact h1,by rw[d];exact h2,λj hj=>h3 j (f i j hj)⟩
 exact l.fc
def cU.ku(h:cU)(ρ:aP)(hl:ab->Prop)(dd:ab->Prop):cU where
 w b:=h.w b/\∀i x,hl i->ρ i≠some (b,x)
 r b:=h.r b/\∀i x,hl i->ρ i≠some (b,x)
 un i:=h.un i\/hl i\/dd i
 fc i:=h.fc i\/dd i
theorem sY{o:cq}(a:o.mw):o.lz=false/\o.aM=[]/\o≠.none:=by cases o<;>simp[cq.mw]at a<;>simp[cq.lz,cq.aM];omega
theorem bz.ku(z:bz P h ρ H w){hl dd:ab->Prop}(p:∀i,hl i->(H.get i).mw)(hd:∀i,dd i->H.get i=.none/\ρ i=none/\i.an<H.next.an/\∀j,i∉(H.get j).aM){H2:ai}(g:H2.next=H.next)(hg:∀j,H2.get j=H.get j\/H2.get j=.none)(q:∀i,hl i->H2.get i=.none):bz P (h.ku ρ hl dd) ρ H2 w:=by
 have hs:=z.sub g hg;have m:∀j,H2.get j≠.none->H2.get j=H.get j:=λj hj=>(hg j).resolve_right hj;have r:=G4 hg;have nH:∀j b x,H2.get j≠.none->ρ j=some (b,x)->∀i y,hl i->ρ i≠some (b,y):=by
  intro j b x hj t i y hi u;obtain⟨l,s,d⟩:=sY (p i hi);have n:i≠j:=λe=>hj (e▸q i hi);have o:H.get j≠.none:=by rw[<-m j hj];exact hj
  rcases z.k6 i j b y x n d o u t with⟨f,_⟩|⟨f,_⟩;·have:=(z.aM i j f).2 d;rw[l]at this;cases this
  rw[s]at f;cases f
 constructor;·exact hs.eF
 .exact hs.k6
 .exact hs.aM
 .intro i b x hi v e;exact⟨hs.wr i b x hi v e,λk y c=>nH i b x hi e k y c⟩
 .exact hs.eo
 .intro k c;have a:∀i x,hl i->ρ i≠some (k,x):=λi x _ e=>by have:=z.fH i k x e;omega
  exact⟨⟨(z.new k c).1,a⟩,⟨(z.new k c).2,a⟩⟩
 .exact hs.mq
 .exact hs.ka
 .exact hs.fH
 .intro i b x hi e;exact⟨hs.rd i b x hi e,λk y c=>nH i b x hi e k y c⟩
 .intro i hi;rcases hi with hi|hi|hi;·exact hs.un i hi
  .obtain⟨l,s,d⟩:=sY (p i hi);refine⟨q i hi,by rw[g];exact z.Dt d,λj hj=>?_⟩;have:=(z.aM i j (r i j hj)).2 d;rw[l]at this;cases this
  obtain⟨h0,h1,h2,h3⟩:=hd i hi;exact⟨by rcases hg i with e|e<;>rw[e];exact h0,by rw[g];exact h2,λj hj=>h3 j (r i j hj)⟩
 intro i hi;rcases hi with hi|hi;·exact⟨.inl (hs.fc i hi).1,(hs.fc i hi).2⟩
 exact⟨.inr (.inr hi),(hd i hi).2.1⟩
theorem bz.G5(T:bz P h ρ H w){hl dd:ab->Prop}(D:∀i,hl i->(H.get i).mw){l:aP}{A:ai}{t:World}(o:cL ρ l)(f:bz P (h.ku ρ hl dd) l A t)(p:eC (h.ku ρ hl dd) w t){H2:ai}(M:H2.next=A.next)(h1:∀i,hl i->H2.get i=H.get i)(h2:∀i,¬hl i->H2.get i=A.get i):bz P h l H2 t/\eC h w t:=by
 have c:∀i,hl i->∃b x q,ρ i=some (b,x)/\l i=some (b,x)/\l.k b=ρ.k b/\w.heap[b]?=some q/\t.heap[b]?=some q/\OR P ρ (H.get i) x q:=by intro i hi;obtain⟨b,x,q,e,G,hb,N⟩:=T.aH (sY (D i hi)).2.2;exact⟨b,x,q,e,(o _ _ e).1,(o _ _ e).2,hb,by rw[p.block b G λE=>E.2 i x hi e];exact hb,N⟩
 have z:∀i j,i∈(H2.get j).aM->¬hl i/\¬hl j/\i∈(A.get j).aM:=by
  intro i j hj;by_cases d:hl j;·rw[h1 j d,(sY (D j d)).2.1]at hj;cases hj
  rw[h2 j d]at hj;exact⟨λhi=>(f.un i (.inr (.inl hi))).2.2 j hj,d,hj⟩
 refine⟨⟨?_,?_,?_,?_,?_,?_,?_,?_,?_,?_,?_,?_⟩,⟨p.os,p.tape,p.output,p.size,λk h1 E=>p.block k h1 λI=>E I.1⟩⟩
 .intro i hi;by_cases a:hl i;·grind[OR.mono]
  rw[h2 i a]at hi⊢;exact f.eF i hi
 .intro i j b x y u hi hj s m;by_cases a:hl i
  .obtain⟨b1,F,_,g,n,_⟩:=c i a;rw[n]at s;injection s with s;injection s with J K;subst J;subst K;by_cases d:hl j;·obtain⟨b2,O,_,c1,c2,_⟩:=c j d;rw[c2]at m;injection m with m;injection m with r v;subst r;subst v;rw[h1 i a]at hi⊢;rw[h1 j d]at hj⊢;exact T.k6 i j _ _ _ u hi hj g c1
   rw[h2 j d]at hj;exact absurd g ((f.rd j _ y hj m).2 i _ a)
  by_cases d:hl j;·obtain⟨b2,O,_,c1,c2,_⟩:=c j d;rw[c2]at m;injection m with m;injection m with r v;subst r;rw[h2 i a]at hi;exact absurd c1 ((f.rd i _ x hi s).2 j _ d)
  rw[h2 i a]at hi⊢;rw[h2 j d]at hj⊢;exact f.k6 i j b x y u hi hj s m
 .intro i j hj;obtain⟨g,n,B⟩:=z i j hj;obtain⟨b1,b2⟩:=f.aM i j B;grind
 .intro i b x hi C e;by_cases a:hl i;·obtain⟨b1,F,_,g,n,_⟩:=c i a;rw[n]at e;injection e with e;injection e with e1 e2;subst e1;rw[h1 i a]at hi C;exact T.wr i _ _ hi C g
  rw[h2 i a]at hi C;exact(f.wr i b x hi C e).1
 .intro i hi;rw[M]at hi;obtain⟨g,n⟩:=f.eo i hi;grind
 .intro k L;exact T.new k (alj p.size L)
 .exact f.mq
 .intro i b x q hi e hb;by_cases a:hl i;·obtain⟨b1,F,S,g,n,B,Q,R,_⟩:=c i a;rw[n]at e;injection e with e;injection e with e1 e2;subst e1;rw[R]at hb;injection hb with hb;subst hb;rw[h1 i a]at hi⊢;rw[B];exact T.ka i _ _ _ hi g Q
  rw[h2 i a]at hi⊢;exact f.ka i b x q hi e hb
 .exact f.fH
 .intro i b x hi e;by_cases a:hl i;·obtain⟨b1,F,_,g,n,_⟩:=c i a;rw[n]at e;injection e with e;injection e with e1 e2;subst e1;rw[h1 i a]at hi;exact T.rd i _ _ hi g
  rw[h2 i a]at hi;exact(f.rd i b x hi e).1
 .intro i hi;obtain⟨g,n,B⟩:=f.un i (.inl hi);have a:¬hl i:=λa=>(sY (D i a)).2.2 (T.un i hi).1;grind
 intro i hi;exact⟨(T.fc i hi).1,(f.fc i (.inl hi)).2⟩
mutual
theorem VR.rS{j r m:aP}(J:∀i x y,j i=some x->r i=some y->m i=some x/\m.k x.1=j.k x.1):∀(v:AV)(c d:Value),VR j v c->VR r v d->VR m v c
 |.tuple l,.tuple cs,.tuple s,k,q=>by exact bj.rS J l cs.toList s.toList k q
 |.agg l,.agg cs,.agg s,k,q=>by exact bj.rS J l cs.toList s.toList k q
 |.bool _,.bool _,_,k,_=>by trivial
 |.int _ _,.int _ _,_,k,_=>by trivial
 |.str _,.string _,_,k,_=>by trivial
 |.az i o,.pointer (some a),.pointer (some B),k,q=>by
  obtain⟨b,x,e,rfl⟩:=k;obtain⟨w,C,z,_⟩:=q;exact⟨b,x,(J _ _ _ e z).1,rfl⟩
 |.lS,.pointer none,_,_,_=>by trivial
 |.slice i o len cap ex,.slice (some a) n c,.slice (some B) F p,k,q=>by
  obtain⟨h1,h2,h3,D,b,x,e,E,G⟩:=k;obtain⟨_,_,_,_,w,C,z,_⟩:=q
  exact⟨h1,h2,h3,D,b,x,(J _ _ _ e z).1,E,by grind⟩
 |.aS,.slice none 0 0,_,_,_=>by trivial
 |.map i,.map (some b),.map (some w),k,q=>by grind[VR]
 |.cY,.map none,_,_,_=>by trivial
 |.func f a b,.func (.func g) c d,.func (.func H) p A,k,q=>by
  exact⟨k.1,bj.rS J a c.toList p.toList k.2.1 q.2.1,bj.rS J b d.toList A.toList k.2.2 q.2.2⟩
 |.yield i,.func (.yield b) c d,.func (.yield w) p A,k,q=>by grind[VR]
 |.nilFunc,.nilFunc,_,_,_=>by trivial
 |.iface t v,.iface u c,.iface I p,k,q=>by exact⟨k.1,VR.rS J v c p k.2 q.2⟩
 |.nilIface,.nilIface,_,_,_=>by trivial
 |.co,_,_,_,_=>by trivial
theorem bj.rS{a e b:aP}(f:∀i x y,a i=some x->e i=some y->b i=some x/\b.k x.1=a.k x.1):∀(l:List AV)(m n:List Value),bj a l m->bj e l n->bj b l m
 |[],[],_,_,_=>by trivial
 |v::l,c::m,d::n,k,q=>by exact⟨VR.rS f v c d k.1 q.1,bj.rS f l m n k.2 q.2⟩
end
theorem OR.rS{d g f:aP}(F:∀i x y,d i=some x->g i=some y->f i=some x/\f.k x.1=d.k x.1){o:cq}(m:o.mw){t u:Nat}{b j:Obj}(k:OR P d o t b)(q:OR P g o u j):OR P f o t b:=by
 cases o with
 |cells c n e rw aM fz=>cases b<;>simp only[OR]at k⊢;cases j<;>simp only[OR]at q;obtain⟨v,w,A,B⟩:=k;obtain⟨_,_,C,_⟩:=q;refine⟨v,w,λi hi=>?_,B⟩;obtain⟨y,e1,D⟩:=A i hi;obtain⟨z,_,E⟩:=C i hi;exact⟨y,e1,VR.rS F _ _ _ D E⟩
 |map es c=>simp only[cq.mw]at m;subst m;cases b<;>simp only[OR]at k⊢;refine⟨k.1,k.2.1,k.2.2.1,?_⟩;have:=k.2.2.2;generalize(Array.toList _)=l at this⊢;cases l with|nil=>simp[cr]|cons a l=>simp[cr]at this
 |pf s r p=>cases b<;>simp only[OR]at k⊢;exact k
 |_=>simp[cq.mw]at m
end
section
variable{P:Program}{d:cU}{ρ:aP}{H:ai}{w:World}{nt:Nat}{aa:ap AV}{a:Act}{o:Oper}{op:bW}
theorem rT(n:ab):∀p:ab,ai.get ⟨.aL,n⟩ p=.none:=by
 have:∀p:ab,(ap.aL:ap cq).get .none p=.none:=by intro p;induction p with|xH=>rfl|xO p a=>exact a|xI p a=>exact a
 trivial
theorem bz.empty(h:bz P d ρ H w){n:ab}(c:H.next.an<=n.an):bz P ⟨λb=>w.heap.size<=b,λb=>w.heap.size<=b,λj=>ρ j=none/\j.an<n.an,λj=>ρ j=none/\j.an<n.an⟩ ρ ⟨.aL,n⟩ w:=by
 constructor;·intro i hi;exact absurd (rT n i) hi
 .intro i j b x y _ hi;exact absurd (rT n i) hi
 .intro i j hj;rw[rT]at hj;cases hj
 .intro i b x hi;exact absurd (rT n i) hi
 .intro i hi;exact⟨rT n i,(h.eo i (alj c hi)).2⟩
 .intro k a;exact⟨a,a⟩
 .exact h.mq
 .intro i b x e hi;exact absurd (rT n i) hi
 .exact h.fH
 .intro i b x hi;exact absurd (rT n i) hi
 .intro i hi;exact⟨rT n i,hi.2,λj hj=>by rw[rT]at hj;cases hj⟩
 intro i hi;exact⟨hi,hi.1⟩
theorem TK(h:bz P d ρ H w)(hE:jg ρ nt aa a.tmps)(S:bU P nt o=some op){n:mu}{eF:cq}(hy:eF.mw)(he:∀X:ai,aE op aa X=some (n.of X.next,X.new eF)){i:ab}(h1:ρ i=none)(h2:i.an<H.next.an)(h3:¬d.un i)(h4:∀j,i∉(H.get j).aM):bE P d ρ w (execOp a.eval o) (n.of i) (H.set i eF):=by
 obtain⟨f1,f2,T⟩:=sY hy;obtain⟨c,w',Q,v,Y,E,I,F⟩:=BC (ef.mk hE (h.empty (n:=H.next) (afb _))) S (he _);obtain⟨c2,w2,_,ag,xb,_,Ib,_⟩:=BC (ef.mk hE (h.empty (n:=H.next.succ) (by rw[ab.gK];omega))) S (he _);have ga:(ai.new ⟨.aL,H.next⟩ eF).get H.next=eF:=by rw[ai.dJ,aK rfl]
 have gb:(ai.new ⟨.aL,H.next.succ⟩ eF).get H.next.succ=eF:=by rw[ai.dJ,aK rfl]
 obtain⟨s,C,L,e1,e2,e3⟩:=I.eF H.next (by rw[ga];exact T);obtain⟨bb,yb,a0,_,_,d3⟩:=Ib.eF H.next.succ (by rw[gb];exact T);rw[ga]at e3;rw[gb]at d3;have ay:w.heap.size<=s:=I.rd H.next s C (by rw[ga];exact T) e1;have R:∀j z,v j=some z->j≠H.next->ρ j=some z:=by
  intro j z J hj;cases hr:ρ j with
  |some z'=>have:=(Y _ _ hr).1;rw[this]at J;exact J
  |none=>
   exfalso;rcases Nat.lt_trichotomy j.an H.next.an with hl|hl|hl;·have:=(I.fc j ⟨hr,hl⟩).2;rw[this]at J;cases J
   .exact hj (ab.uC hl)
   have:=(I.eo j (by show H.next.succ.an<=_;rw[ab.gK];omega)).2;rw[this]at J;cases J
 have av:ag H.next=none:=(Ib.fc H.next ⟨(h.eo _ (afb _)).2,by rw[ab.gK];omega⟩).2;have q:cL ρ (ρ.add i s C (v.k s)):=aP.sR s C _ h1 (λj c y e S=>by have:=(Y _ _ e).2;simp only at this;rw[S]at this;exact this.symm);have aw:OR P (ρ.add i s C (v.k s)) eF C L:=by
  refine OR.rS ?_ hy e3 d3;intro j x y hx M;have hj:j≠H.next:=λe=>by rw[e,av]at M;cases M
  have:=R j x hx hj;exact⟨(q _ _ this).1,by rw[(q _ _ this).2,(Y _ _ this).2]⟩
 have gE:∀k,k<w.heap.size->w'.heap[k]?=w.heap[k]?:=λk t=>F.block k t (by show¬w.heap.size<=k;omega);refine⟨c,w',Q,ρ.add i s C (v.k s),q,?_,?_,⟨F.os,F.tape,F.output,F.size,λk t _=>gE k t⟩⟩
 .cases n with
  |az=>obtain⟨b,x,m,u⟩:=VR.oO E;rw[e1]at m;injection m with m;injection m with G K;subst G;subst K;rw[u];exact⟨_,_,aP.fP ..,rfl⟩
  |slice l cp ex=>
   simp only[mu.of]at E⊢;cases c with
   |slice ad l' c'=>cases ad with|none=>simp[VR]at E|some ad=>simp only[VR]at E⊢;obtain⟨p1,p2,p3,p4,b,x,m,u,G⟩:=E;rw[e1]at m;injection m with m;injection m with K q5;subst K;subst q5;exact⟨p1,p2,p3,p4,_,_,aP.fP ..,u,by rw[aP.uD];exact G⟩
   |_=>simp[VR]at E
  |map=>obtain⟨b,m,u⟩:=VR.po E;rw[e1]at m;injection m with m;injection m with G K;subst G;subst K;rw[u];simp only[mu.of,VR];exact aP.fP ..
 have hg:∀j,(H.set i eF).get j=if j=i then eF else H.get j:=λj=>ai.aF _ _ _ _;have D:∀j k,j∈((H.set i eF).get k).aM->k≠i/\j≠i/\j∈(H.get k).aM:=by
  intro j k hj;rw[hg]at hj;by_cases e:k=i;·rw[aK e,f2]at hj;cases hj
  rw[aq e]at hj;exact⟨e,λe2=>h4 k (e2▸hj),hj⟩
 have f:∀j,j≠i->(ρ.add i s C (v.k s)) j=ρ j:=λj hj=>by simp[aP.add,hj]
 constructor
 .intro j hj;rw[hg]at hj⊢;by_cases e:j=i;·subst e;rw[aK rfl];exact⟨s,C,L,aP.fP ..,e2,aw⟩
  rw[aq e]at hj⊢;obtain⟨b,x,V,g1,Z,g3,g4⟩:=h.aH hj;exact⟨b,x,V,by rw[f j e];exact g1,by rw[gE b Z];exact g3,OR.mono q g4⟩
 .intro j k b x y N hj t A B;rw[hg]at hj t;rw[hg,hg];by_cases e:j=i;·subst e;have p:k≠j:=λe=>N e.symm;rw[aP.fP]at A;injection A with A;injection A with A _;rw[f k p]at B;have:=h.fH k b y B;omega
  by_cases p:k=i;·subst p;rw[aP.fP]at B;injection B with B;injection B with B _;rw[f j e]at A;have:=h.fH j b x A;omega
  rw[aq e]at hj⊢;rw[aq p]at t⊢;rw[f j e]at A;rw[f k p]at B;exact h.k6 j k b x y N hj t A B
 .intro j k hj;obtain⟨g1,Z,g3⟩:=D j k hj;obtain⟨m,u⟩:=h.aM j k g3;exact⟨m,λO=>by rw[hg,aq Z]at O⊢;exact u O⟩
 .intro j b x hj hf e;rw[hg]at hj hf;by_cases p:j=i;·subst p;rw[aP.fP]at e;injection e with e;injection e with e _;exact(h.new b af).1
  rw[aq p]at hj hf;rw[f j p]at e;exact h.wr j b x hj hf e
 .intro j hj;have r:j≠i:=λe=>by subst e;have:H.next.an<=j.an:=hj;omega
  obtain⟨m,u⟩:=h.eo j hj;exact⟨by rw[hg,aq r];exact m,by rw[f j r];exact u⟩
 .intro k t;exact h.new k (alj F.size t)
 .intro g ax;exact(q _ _ (h.mq g ax)).1
 .intro j b x V hj e hb;rw[hg]at hj⊢;by_cases p:j=i;·subst p;rw[aK rfl];rw[aP.fP]at e;injection e with e;injection e with W e5;subst W;rw[aP.uD];have:=I.ka H.next _ _ V (by rw[ga];exact T) e1 hb;rw[ga]at this;exact this
  rw[aq p]at hj⊢;rw[f j p]at e;rw[(q _ _ e).2];exact h.ka j b x V hj e (by rw[<-gE b (h.fH j b x e)];exact hb)
 .intro j b x e;by_cases p:j=i;·subst p;rw[aP.fP]at e;injection e with e;injection e with W _;subst W;exact I.fH _ _ _ e1
  rw[f j p]at e;exact ako (h.fH j b x e) F.size
 .intro j b x hj e;rw[hg]at hj;by_cases p:j=i;·subst p;rw[aP.fP]at e;injection e with e;injection e with W _;exact(h.new b af).2
  rw[aq p]at hj;rw[f j p]at e;exact h.rd j b x hj e
 .intro j hj;obtain⟨m,u,G⟩:=h.un j hj;have r:j≠i:=λe=>h3 (e▸hj);exact⟨by rw[hg,aq r];exact m,u,λk t=>G k (D j k t).2.2⟩
 intro j hj;have r:j≠i:=λe=>h3 (e▸(h.fc j hj).1);exact⟨(h.fc j hj).1,by rw[f j r];exact(h.fc j hj).2⟩
end
section
variable{P:Program}{nt:Nat}{aC:Array Oper}{l:List be}{anc:Array Nat}
def kw(anc:Array Nat)(i j:Nat):Prop:=(anc.getD i 0).testBit j=true
def In(L:Array Bool)(i:Nat):Prop:=L.getD i false=true
def my(aC:Array Oper)(i j:Nat):Prop:=∃o e,aC[i]?=some o/\e∈o.after.toList/\Region.binds .any e=true/\e.on=j
theorem Me(a:Array Nat)(j:Nat):∀(es:List Edge)(s:Nat),(es.foldl (λs e=>if Region.binds .any e then s|||2^e.on|||a.getD e.on 0 else s) s).testBit j=true->s.testBit j=true\/∃e∈es,Region.binds .any e=true/\(j=e.on\/(a.getD e.on 0).testBit j=true)|[],s,h=>.inl h|e::es,s,h=>by simp only[List.foldl_cons]at h;rcases Me a j es _ h with h1|⟨b,he,h1⟩;all_goals grind
def uK(a:Array Nat)(o:Oper):Array Nat:=a.push (o.after.foldl (λs e=>if Region.binds .any e then s|||2^e.on|||a.getD e.on 0 else s) 0)
theorem TL(aC:Array Oper):Region.before aC=aC.toList.foldl uK #[]:=by unfold Region.before;rw[<-Array.foldl_toList];rfl
theorem Mf(aC:Array Oper):∀(b cO:List Oper)(a:Array Nat),aC.toList=cO++b->a.size=cO.length->(∀i j,(a.getD i 0).testBit j=true->∃k,my aC i k/\k<i/\(j=k\/(a.getD k 0).testBit j=true)\/(my aC i j))->∀i j,((b.foldl uK a).getD i 0).testBit j=true->∃k,my aC i k/\k<i/\(j=k\/((b.foldl uK a).getD k 0).testBit j=true)\/(my aC i j)
 |[],_,_,_,_,h=>h
 |o::b,cO,a,p,hs,h=>by
  refine Mf aC b (cO++[o]) _ (by grind) (by simp[hs,uK]) ?_;intro i j c;have f:∀k,k<a.size->(uK a o).getD k 0=a.getD k 0:=by intro k l;simp only[uK,akJ];rw[ale,aq af]
  have g:∀k,a.size<=k->a.getD k 0=0:=by intro k l;simp[akJ,akX l]
  rcases Nat.lt_trichotomy i a.size with hl|hl|hl
  .rw[f i hl]at c;obtain⟨k,l|l⟩:=h i j c;·grind
   simp_all
  .subst hl;have d:(uK a o).getD a.size 0=o.after.foldl (λs e=>if Region.binds .any e then s|||2^e.on|||a.getD e.on 0 else s) 0:=by simp only[uK,akJ];rw[ale,aK rfl];rfl
   rw[d,<-Array.foldl_toList]at c;have n:aC[a.size]?=some o:=by rw[<-alc,p,hs];simp
   rcases Me a j _ _ c with h0|⟨e,he,hb,h1⟩;·grind
   rcases h1 with h1|h1;·exact⟨0,.inr ⟨o,e,n,he,hb,h1.symm⟩⟩
   have m:e.on<a.size:=by
    rcases akW e.on a.size with q|q;·exact q
    rw[g _ q]at h1;simp at h1
   exact⟨e.on,.inl ⟨⟨o,e,n,he,hb,rfl⟩,m,.inr (by grind)⟩⟩
  grind[uK,akJ,akX]
theorem TM(aC:Array Oper){i j:Nat}(h:kw (Region.before aC) i j):∃k,my aC i k/\k<i/\(j=k\/kw (Region.before aC) k j)\/my aC i j:=by rw[TL]at h⊢;exact Mf aC aC.toList [] #[] rfl rfl (λi j h=>by grind) i j h
theorem vT{S:Nat->Prop}(a:∀i,S i->∀j,my aC i j->S j):∀(i:Nat),(∀j,my aC i j->S j)->∀j,kw (Region.before aC) i j->S j:=by intro i;induction i using Nat.strongRecOn with|ind i b=>grind[TM]
theorem TN(h:Bp aC=true){i j:Nat}(hd:my aC i j):j<i:=by
 obtain⟨o,e,h1,h2,h3,rfl⟩:=hd;unfold Bp at h;rw[aln]at h;have a:(o,i)∈aC.toList.zipIdx:=by rw[List.mem_zipIdx_iff_getElem?];rw[alc];exact h1
 grind[Array.all_eq_true_iff_forall_mem]
theorem TO{L:Array Bool}(U:L.size=aC.size){i:Nat}(h:i∈Region.ready .any aC L):i<aC.size/\¬In L i/\∀j,my aC i j->In L j:=by
 simp only[Region.ready,alF,ak3,aj6,akU]at h;obtain⟨h1,h2,h3⟩:=h;refine⟨h1,?_,?_⟩;·simp_all[In,akJ,getElem?_pos,akQ]
 rintro j⟨o,e,a,b,c,rfl⟩;grind[Array.all_eq_true_iff_forall_mem,In]
theorem TP{L:Array Bool}(U:L.size=aC.size)(he:Bp aC=true)(h:Region.ready .any aC L=[]):∀i,i<aC.size->In L i:=by
 intro i;induction i using Nat.strongRecOn with
 |ind i d=>
  intro hi;by_cases a:In L i;·omega
  have:i∈Region.ready .any aC L:=by
   simp only[Region.ready,alF,ak3,aj6,akU];refine⟨hi,?_,?_⟩;·have b:i<L.size:=af;unfold In at a;simp only[akJ,getElem?_pos L i b,akQ]at a⊢;simpa using a
   rw[getElem?_pos aC i hi];simp only[akt,akQ,Array.all_eq_true_iff_forall_mem];intro e c;cases hb:Region.binds .any e with|false=>simp|true=>have hd:my aC i e.on:=⟨aC[i],e,getElem?_pos aC i hi,by simpa using c,hb,rfl⟩;have b:=TN he hd;have:=d e.on b af;simp only[aku,Bool.false_or];exact this
  grind
def zL(L:Array Bool)(n:Nat):Nat:=((ake n).filter λi=>!L.getD i false).length
theorem Mg{p q:Nat->Bool}{i:Nat}:∀(r:List Nat),r.Nodup->i∈r->p i=true->q i=false->(∀j,j≠i->q j=p j)->(r.filter q).length+1=(r.filter p).length
 |[],_,h,_,_,_=>by grind
 |a::r,b,h,c,d,hj=>by
  rw[akz]at b;by_cases e:a=i;·grind[List.filter_congr]
  have f:i∈r:=by
   rcases aeV.1 h with q|q;·exact absurd q.symm e
   exact q
  have:=Mg r b.2 f c d hj;grind
theorem G6{L:Array Bool}{i:Nat}(hi:i<L.size)(j:Nat):In (L.setIfInBounds i true) j↔j=i\/In L j:=by unfold In;by_cases e:i=j;all_goals simp_all[alI]
theorem TQ{L:Array Bool}{n i:Nat}(U:L.size=n)(hi:i<n)(h:¬In L i):zL (L.setIfInBounds i true) n+1=zL L n:=by
 refine Mg (i:=i) _ List.nodup_range (by grind) ?_ ?_ ?_;·simp_all[In]
 .simp_all
 intro j hj;have:=G6 (L:=L) (i:=i) af j;unfold In at this;simp only[hj,false_or]at this;cases h1:L.getD j false<;>cases h2:(L.setIfInBounds i true).getD j false<;>simp_all
theorem TR{L:Array Bool}{n i:Nat}(hi:i<n)(h:¬In L i):0<zL L n:=by apply List.length_pos_of_mem (a:=i);simp_all[In,akJ]
def gM(l:List be)(i:Nat)(t:ab):Prop:=∃x,l[i]?=some x/\x.dst=some t
def Mk(l:List be)(aa:ap AV)(i:Nat)(j:ab):Prop:=∃x d,l[i]?=some x/\x.op.mO=true/\x.dst=some d/\jq (aa.get .alR d)=some j
def Ch(l:List be)(i:Nat):Prop:=∃x,l[i]?=some x/\x.op.jf=true
theorem TS{op:bW}(h:op.jf=true):op.mO=false/\op.kp=false/\op.plain=false:=by cases op<;>simp[bW.jf]at h<;>simp[bW.mO,bW.kp,bW.plain]
theorem zM{op:bW}(h:op.mO=true):op.jf=false/\op.kp=false/\op.plain=false:=by cases op<;>simp[bW.mO]at h<;>simp[bW.jf,bW.kp,bW.plain]
theorem zN{op:bW}(h:op.kp=true):op.jf=false/\op.mO=false/\op.plain=false:=by cases op<;>(try(simp[bW.kp]at h;done))<;>simp[bW.jf,bW.mO,bW.plain];rename_i lo _ _;cases lo;all_goals trivial
theorem rU{i j:Nat}(h:uy l anc i j=true){x y:be}(c:l[i]?=some x)(f:l[j]?=some y):i≠j/\¬kw anc i j/\(∀d,x.dst=some d->y.dst≠some d/\(d∈y.lY->kw anc j i))/\(∀d,y.dst=some d->d∈x.lY->kw anc j i/\x.op.kp=false)/\(x.op.jf=true->kw anc j i/\∀k,kw anc i k->kw anc j k):=by
 unfold uy at h;rw[c,f]at h;simp only[aj6,bne_iff_ne,ne_eq,akU]at h;obtain⟨⟨⟨⟨h1,h2⟩,h3⟩,a⟩,b⟩:=h;refine⟨h1,by simp_all[kw],?_,?_,?_⟩
 .intro d hd;rw[hd]at h3;simp only[aj6,alf,akU]at h3;refine⟨λe=>?_,λg=>?_⟩;·grind
  rcases h3.2 with h|h;·exact h
  grind
 .intro d hd g;rw[hd]at a;simp only[alf,aj6,akU]at a;rcases a with h|h;·grind
  trivial
 intro m;simp only[m,aku,Bool.false_or,aj6,beq_iff_eq]at b;refine⟨b.1,λk n=>?_⟩;unfold kw at n⊢;grind
theorem BG:∀{ak:List Nat},zt l anc ak=true->ak.Pairwise (λi j=>uy l anc i j=true)/\∀i∈ak,∃x,l[i]?=some x/\uz x=true|[],_=>⟨alQ,λi h=>by grind⟩|i::a,h=>by simp only[zt,aj6,aln]at h;obtain⟨⟨h1,h2⟩,h3⟩:=h;obtain⟨b,c⟩:=BG h3;grind[alq]
theorem Mh{b:Type}{R:b->b->Prop}:∀{s:List b},s.Pairwise R->∀{i j:b},i∈s->j∈s->i=j\/R i j\/R j i
 |[],_,i,_,h,_=>by grind
 |a::s,h,i,j,hi,hj=>by
  rw[alq]at h;rcases aeV.1 hi with e|e;·grind
  rcases aeV.1 hj with c|c;·grind
  exact Mh h.2 e c
theorem gM.inj{ak:List Nat}(f:zt l anc ak=true){i j:Nat}(hi:i∈ak)(hj:j∈ak){t:ab}(h1:gM l i t)(h2:gM l j t):i=j:=by
 obtain⟨x,a,b⟩:=h1;obtain⟨y,c,d⟩:=h2;rcases Mh (BG f).1 hi hj with e|e|e;·omega
 .exact absurd d ((rU e a c).2.2.1 t b).1
 exact absurd b ((rU e c a).2.2.1 t d).1
def jO(aa:ap AV)(a:List ab):List ab:=a.filterMap λp=>jq (aa.get .alR p)
theorem DQ(aa:ap AV):∀(a:List ab)(H:ai)(j:ab),(eV aa H a).1.get j=(if j∈jO aa a then .none else H.get j)/\(eV aa H a).1.next=H.next/\∀b,(eB b (eV aa H a).2).get j=(if j∈jO aa a then H.get j else b.get j)/\(eB b (eV aa H a).2).next=b.next
 |[],H,j=>by simp[eV,jO,eB]
 |p::a,H,j=>by
  unfold eV;cases g:jq (aa.get .alR p)with
  |none=>have:=DQ aa a H j;simpa[jO,g]using this
  |some i=>
   have c:=DQ aa a (H.set i .none) j;simp only;have d:∀q,q∈jO aa (p::a)↔q=i\/q∈jO aa a:=by intro q;simp[jO,g]
   refine⟨?_,by rw[c.2.1];rfl,λb=>⟨?_,?_⟩⟩
   .rw[c.1,ai.aF];by_cases e:j=i;·subst e;simp[d]
    by_cases f:j∈jO aa a<;>simp[d,e,f]
   .rw[eB,ai.aF,(c.2.2 b).1,ai.aF];by_cases e:j=i;·subst e;simp[d]
    by_cases f:j∈jO aa a<;>simp[d,e,f]
   rw[eB,ai.gD];exact(c.2.2 b).2
theorem Mi{seen:List Nat}{i:Nat}{aa:ap AV}{j:ab}:j∈jO aa (Bo l anc seen i)↔∃k∈seen,¬kw anc i k/\Mk l aa k j:=by
 simp only[jO,Bo,List.mem_filterMap];constructor
 .rintro⟨p,⟨k,a,h1⟩,h2⟩;split at h1
  .rename_i r b;split at h1;·rename_i c;simp only[aj6,akU]at c;exact⟨k,a,by simp_all[kw],r,p,b,c.1,h1,h2⟩
   grind
  grind
 rintro⟨k,a,h1,r,d,b,h2,h3,e⟩;refine⟨d,⟨k,a,?_⟩,e⟩;simp_all[kw,Bool.not_false,alK,bq]
theorem TT{seen:List Nat}{i k:Nat}(a:k∈seen){r:be}(b:l[k]?=some r)(h1:r.op.kp=true)(h2:¬kw anc i k){d:ab}(hd:r.dst=some d):(⟨d,r.op,r.guard⟩:jo)∈kp l anc seen i:=by simp only[kp,List.mem_filterMap];refine⟨k,a,?_⟩;simp_all[kw,Bool.not_false,alK,bq,akt]
theorem Mj{aa:ap AV}{H:ai}:∀{re:List jo},fG aa H re=true->∀r∈re,fF aa r.guard=true->∃H1,aE r.op aa H=some (aa.get .alR r.dst,H1)
 |[],_,r,h,_=>by cases h
 |a::re,h,r,b,hg=>by
  simp only[fG,aj6]at h;rcases aeV.1 b with e|e
  .subst e;rw[hg]at h;simp only[bq]at h;have:=h.1;split at this;·rename_i w H1 c;rw[c,TJ this];exact⟨H1,rfl⟩
   cases this
  exact Mj h.2 r e hg
end
end
end Go.am
end
