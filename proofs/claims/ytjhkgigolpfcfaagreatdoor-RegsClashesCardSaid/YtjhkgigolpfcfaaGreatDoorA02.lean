/- A part of the proof. No conditions. -/
import Derived.Test.YtjhkgigolpfcfaaGreatDoorA00
import GoSem.Core.Region
import Derived.Control
import Derived.Below
import Derived.Laws.IdiomCopy
import Derived.Laws.Cells
import GoSem.Dispatch
import Derived.Laws.StructEq
import Derived.Lib.ConvBytes
import Derived.Laws.BytesString
import Derived.Laws.AppendOwn
set_option linter.all false
open Option.some renaming injEq→acm
open Option renaming bind_eq_some_iff→acR,bind_eq_bind→adO,map_eq_some_iff→afi,pure_def→af1,map_some→ahb,getD_some→ahs,bind_some→ah5
open List renaming mem_singleton→ac3,mem_cons_self→adc,mem_cons→adC,mem_cons_of_mem→adD,mem_append→agI,map_cons→agN,length_append→agP,drop_eq_getElem_cons→agR,range→agV,length_map→agZ,mem_map→ag3,mem_map_of_mem→ag5,getElem?_map→ahc,getElem?_append_left→ahd,length_cons→ahh,map_append→ahk,getElem?_eq_getElem→ahr,getElem?_eq_some_iff→ahv,nodup_append→ahy,cons_append→ahC,nil_append→ahH,getElem?_cons_succ→ahK,map_nil→ahX,take_zero→ah0,take_succ_cons→ah7,mapM_cons→aic,map_map→aii
open Bool renaming false_eq_true→ac6,and_eq_true→agM,not_true→ag9,or_eq_true→ahT,eq_iff_iff→aij
open Nat renaming le_refl→adW,eq_of_beq_eq_true→agO,beq→agQ,le_of_ble_eq_true→agT,zero_add→agW,lt_of_lt_of_le→ag6,blt→aha,mul_le_mul_right→ahf,ble_eq_true_of_le→ahi,lt_or_ge→ahz,le_trans→ahY,add_assoc→ah3,mul_one→ah9,min_eq_left→aid,add_mul→aig,add_zero→ail,sub_zero→aip
open Prod.mk renaming injEq→age
open Int renaming toNat_natCast→agK,ofNat_eq_natCast→agL,ofNat→ahI
open List.cons renaming injEq→ag4
open Array renaming getElem?_setIfInBounds→ag8,length_toList→ahm,getElem?_eq_none→ahE,getElem?_toList→ahP,getElem?_push→ahS,range→ait
open BitVec renaming ofInt→ahJ
open UInt8 renaming toNat→aib
open Ne renaming symm→aio
noncomputable section
namespace Go.ak
section
mutual
def kV:Value→Option AV
 |.bool b=>some (.bool b)
 |.int k n=>some (.int (kc k) n)
 |.string s=>some (.aC (s.data.toList.map aib))
 |.pointer none=>some .ls
 |.slice none 0 0=>some .aP
 |.map none=>some .cL
 |.nilFunc=>some .nilFunc
 |.nilIface=>some .nilIface
 |.func (.func f) a b=>match uQ a.toList,uQ b.toList with
  |some a,some b=>some (.func f a b)
  |_,_=>none
 |.agg l=>(uQ l.toList).map .agg
 |.tuple l=>(uQ l.toList).map .tuple
 |.iface t v=>(kV v).map (.iface t)
 |_=>none
def uQ:List Value→Option (List AV)
 |[]=>some []
 |v::l=>match kV v,uQ l with
  |some v,some l=>some (v::l)
  |_,_=>none
end
variable(P:Program)(nt:Nat)
def gI:Operand→Option aG
 |.tmp t=>if t<nt then some (.t (ac.dj t))else none
 |.const v=>(kV v).map .c
 |.global g=>if g<P.globals.size then some (.c (.aw (ac.dj g) 0))else none
 |.func f=>some (.c (.func f [] []))
def uR(l:Array Operand):Option (List aG):=l.toList.mapM (gI P nt)
def mK:Option Operand→Option (Option aG)
 |none=>some none
 |some x=>(gI P nt x).map some
def jQ(t:TypeId):Option TypeInfo:=P.info? t
def ia(t:TypeId):Option TypeDesc:=P.underlying t
def fE(t:TypeId):Option Nat:=(P.info? t).map (·.size)
def yH(t:TypeId):Option Nat:=(P.info? t).map (·.bytes)
def oZ(t:TypeId):Option AV:=(P.info? t).bind λi=>i.zero.bind kV
def oz(t:TypeId):Option Bool:=(P.underlying t).map λd=>match d with|.struct _|.array _ _=>true|_=>false
def jy:(fuel:Nat)→(const:Bool)→TypeId→Option ep
 |0,_,_=>none
 |f+1,const,t=>
  match P.underlying t with
  |some .bool=>some .bool
  |some (.int _)=>some .int
  |some .string=>some .aC
  |some (.pointer e)=>match fE P e with
   |some (_+1)=>some .aw
   |_=>none
  |some (.slice _)=>some .slice
  |some (.map ..)=>some .map
  |some (.func ..)=>some .func
  |some (.interface b)=>some (.iface const b.isEmpty)
  |some (.struct fs)=>
   if P.stoodInHeld t then none else
   (fs.toList.mapM λ(g:Field)=>if g.name= "_" then none else match jy f false g.type,fE P g.type,oz P g.type with
    |some d,some s,some a=>some (g.offset,s,a,d)
    |_,_,_=>none).map .eW
  |some (.array n e)=>match jy f false e,fE P e,oz P e with
   |some d,some s,some a=>some (.eW ((agV n).map λi=>(i*s,s,a,d)))
   |_,_,_=>none
  |_=>none
def rZ(t:TypeId):Option ep:=
 match P.underlying t with
 |some (.int _)|some .string|some .bool|some (.struct _)|some (.array ..)=>jy P 16 false t
 |_=>none
def yI(d:ep)(t:TypeId):Bool:=
 match d with
 |.eW _=>!P.eqGuardType P.depth t
 |_=>true
def qO:Operand→Bool
 |.const _=>true
 |_=>false
def bN(o:Oper):Option bO:=do
 let g:=gI P nt
 match o.op with
 |.move x|.assign x=>return .bg (←g x)
 |.pick c a b=>return .pick (←g c) (←g a) (←g b)
 |.alloc e=>return .alloc e (←oZ P e).cells
 |.box e x=>return .box e (←g x)
 |.build t eW=>
  let r:=(←oZ P t).cells
  match←ia P t with
  |.struct fs=>
   let u←fs.toList.mapM λ(f:Field)=>(fE P f.type).map λs=>(f.offset,s)
   let l←eW.toList.mapM λ(p:Nat×Operand)=>(u[p.1]?).bind λq=>(g p.2).map λx=>(q.1,q.2,x)
   return .build r l
  |.array _ e=>
   let s←fE P e
   let l←eW.toList.mapM λ(p:Nat×Operand)=>(g p.2).map λx=>(p.1*s,s,x)
   return .build r l
  |_=>none
 |.buildSlice t len eW=>
  match←ia P t with
  |.slice e=>
   let s←fE P e
   let r:=(←oZ P e).cells
   if r.length≠s∨s=0∨len*s>65536 then none else
   let l←eW.toList.mapM λ(p:Nat×Operand)=>(g p.2).map λx=>(p.1*s,s,x)
   return .buildSlice e len r l
  |_=>none
 |.load t a=>if←oz P t then return .fZ (←fE P t) (←g a)else return .aW (←g a)
 |.store t a x=>return .store (←fE P t) (←g a) (←g x)
 |.nilCheck x=>return .nilCheck (←g x)
 |.binOp op t x y _=>
  match op,←ia P t with
  |.shl,.int _|.shr,.int _=>return .shift op (←g x) (←g y)
  |_,.int k=>return .arith op (kc k) (←g x) (←g y)
  |_,.string=>return .il op (←g x) (←g y)
  |.eql,_=>
   let d←jy P 16 (qO x||qO y) t
   if yI P d t then return .eq false d (←g x) (←g y)else none
  |.neq,_=>
   let d←jy P 16 (qO x||qO y) t
   if yI P d t then return .eq true d (←g x) (←g y)else none
  |_,_=>none
 |.unOp op _ x=>return .unary op (←g x)
 |.convert s d x=>
  match←ia P s,←ia P d with
  |.int _,.int k=>return .lu (kc k) (←g x)
  |.string,.string=>return .Ad (←g x)
  |.string,.slice e=>if(←ia P e)matches .int .u8 then(if fE P e=some 1 then return .wn e (←g x)else none)else none
  |.slice e,.string=>if(←ia P e)matches .int .u8 then return .wp (←g x)else none
  |_,_=>none
 |.makeInterface t x=>if(←ia P t)matches .interface _ then none else return .lw t (←g x)
 |.makeFunc (.func f) a b=>return .iG f (←uR P nt a) (←uR P nt b)
 |.makeMap _ none=>return .j7
 |.makeMap _ (some _)=>none
 |.makeSlice t l c=>
  match←ia P t with
  |.slice e=>
   let s←fE P e
   let r:=(←oZ P e).cells
   if r.length≠s∨s=0 then none else return .jr e (←yH P e) s r (←g l) (←g c)
  |_=>none
 |.slice t x lo hi z=>
  match←ia P t with
  |.array n e=>if z.isSome&&hi.isNone then none else return .yr n (←fE P e) (←g x) (←mK P nt lo) (←mK P nt hi) (←mK P nt z)
  |.slice e=>if z.isSome&&hi.isNone then none else
   let s←fE P e
   if s=0 then none else return .gR e s (←g x) (←mK P nt lo) (←mK P nt hi) (←mK P nt z)
  |.string=>if z.isSome then none else return .wt (←g x) (←mK P nt lo) (←mK P nt hi)
  |_=>none
 |.fieldAddr t x i=>
  match←ia P t with
  |.struct fs=>
   let f←fs[i]?
   if(←fE P f.type)=0 then none else return .jM f.offset (←g x)
  |_=>none
 |.field t x i=>
  match←ia P t with
  |.struct fs=>
   let f←fs[i]?
   return .part (←oz P f.type) f.offset (←fE P f.type) (←g x)
  |_=>none
 |.indexAddr t x i=>
  match←ia P t with
  |.array n e=>return .rU n (←fE P e) (←g x) (←g i)
  |.slice e=>return .dk (←fE P e) (←g x) (←g i)
  |_=>none
 |.index t x i=>
  match←ia P t with
  |.array n e=>return .Ae (←oz P e) n (←fE P e) (←g x) (←g i)
  |.string=>return .mH (←g x) (←g i)
  |_=>none
 |.lookup t m k ok=>
  match←ia P t with
  |.map w e=>return .lookup (←rZ P w) (←oZ P e) ok (←g m) (←g k)
  |_=>none
 |.mapUpdate t m k v|.insert t m k v=>
  match←ia P t with
  |.map w _=>return .ju (←rZ P w) (←g m) (←g k) (←g v)
  |_=>none
 |.mapEntry t m k=>
  match←ia P t with
  |.map w e=>return .mapEntry (←rZ P w) (←oZ P e) (←g m) (←g k)
  |_=>none
 |.entryStore _ m s v=>return .entryStore (←g m) (←g s) (←g v)
 |.range t x=>match←ia P t with
  |.string=>return .qI (←g x)
  |.map .. =>return .oh (←g x)
  |_=>none
 |.entry A=>return .tq (←g A)
 |.next A j=>if j then return .uO (←g A)else return .lx (←g A)
 |.typeAssert x _ t ok=>if(←ia P t)matches .interface _ then none else return .typeAssert t (←oZ P t) ok (←g x)
 |.extract x i=>return .extract (←g x) i
 |.call c=>
  match c.callee with
  |.value f=>return .call (←g f) (←uR P nt c.args)
  |.builtin b=>
   let h(i:Nat):Option aG:=(c.args[i]?).bind g
   match b with
   |.len=>match←ia P (←c.argTypes[0]?)with
    |.array n _=>(h 0).bind λ_=>some (.pE n)
    |.pointer e=>match←ia P e with
     |.array n _=>(h 0).bind λ_=>some (.pE n)
     |_=>none
    |.string=>return .ku (←h 0)
    |.slice _=>return .jN (←h 0)
    |.map .. =>return .wu (←h 0)
    |_=>none
   |.cap=>match←ia P (←c.argTypes[0]?)with
    |.slice _=>return .cap (←h 0)
    |_=>none
   |.append=>match←ia P (←c.argTypes[0]?)with
    |.slice e=>
     let s←fE P e
     let r:=(←oZ P e).cells
     if r.length≠s∨s=0∨c.args.size≠2 then none else
     let d←ia P (←c.argTypes[1]?)
     return .append e (←yH P e) s r (d matches .int _) (←h 0) (←h 1)
    |_=>none
   |.copy=>match←ia P (←c.argTypes[0]?)with
    |.slice e=>return .copy (←fE P e) (←h 0) (←h 1)
    |_=>none
   |.clear=>match←ia P (←c.argTypes[0]?)with
    |.slice e=>return .yt (←oZ P e).cells (←h 0)
    |.map .. =>return .yu (←h 0)
    |_=>none
   |.delete=>match←ia P (←c.argTypes[0]?)with
    |.map w _=>return .delete (←rZ P w) (←h 0) (←h 1)
    |_=>none
   |.min=>return .pF false (←uR P nt c.args)
   |.max=>return .pF true (←uR P nt c.args)
   |_=>none
  |_=>none
 |_=>none
def bO.iT:bO→Bool
 |.store .. |.ju .. |.mapEntry .. |.entryStore .. |.uO _|.lx _|.oh _|.append .. |.copy .. |.yt .. |.yu .. |.delete .. |.call .. |.oW=>true
 |_=>false
def bO.mh:bO→Bool
 |.box .. |.alloc .. |.buildSlice .. |.wn .. |.j7|.jr .. |.qI _=>true
 |_=>false
def bO.j8:bO→Bool
 |.aW _|.fZ .. |.lookup .. |.wu _|.wp _|.gR _ _ _ (some _) _ _=>true
 |_=>false
def bO.plain:bO→Bool
 |.bg _|.pick .. |.build .. |.nilCheck _|.arith .. |.shift .. |.il .. |.eq .. |.unary .. |.lu .. |.Ad _|.lw .. |.iG .. |.yr .. |.wt .. |.jM .. |.part .. |.rU .. |.dk ..
 |.Ae .. |.mH .. |.typeAssert .. |.extract .. |.pE _|.ku _|.jN _|.cap _|.pF .. |.gR _ _ _ none _ _=>true
 |_=>false
def aG.cH:aG→List ac
 |.t p=>[p]
 |.c _=>[]
def yJ:Option aG→List ac
 |some x=>x.cH
 |none=>[]
def bO.cH:bO→List ac
 |.bg x|.box _ x|.aW x|.fZ _ x|.nilCheck x|.unary _ x|.lu _ x|.wn _ x|.wp x|.Ad x|.lw _ x|.jM _ x|.part _ _ _ x|.qI x|.uO x|.oh x|.lx x|.tq x
 |.typeAssert _ _ _ x|.extract x _|.ku x|.jN x|.wu x|.cap x|.yt _ x|.yu x=>x.cH
 |.pick c a b=>c.cH++(a.cH++b.cH)
 |.alloc .. |.j7|.oW|.pE _=>[]
 |.build _ d|.buildSlice _ _ _ d=>d.flatMap λp=>p.2.2.cH
 |.store _ a x=>a.cH++x.cH
 |.arith _ _ x y|.shift _ x y|.il _ x y|.eq _ _ x y|.rU _ _ x y|.dk _ x y|.Ae _ _ _ x y|.mH x y|.lookup _ _ _ x y|.mapEntry _ _ x y|.append _ _ _ _ _ x y|.copy _ x y|.delete _ x y|.jr _ _ _ _ x y=>x.cH++y.cH
 |.iG _ a b=>a.flatMap aG.cH++b.flatMap aG.cH
 |.yr _ _ x a b c|.gR _ _ x a b c=>x.cH++(yJ a++(yJ b++yJ c))
 |.wt x a b=>x.cH++(yJ a++yJ b)
 |.ju _ m k v=>m.cH++(k.cH++v.cH)
 |.entryStore m s v=>m.cH++(s.cH++v.cH)
 |.pF _ l=>l.flatMap aG.cH
 |.call f l=>f.cH++l.flatMap aG.cH
def aS.lB(x:aS):List ac:=(match x.guard with|some (g,_)=>[g]|none=>[])++x.op.cH
def yK:Op→Bool
 |.call c=>match c.callee with
  |.value _=>true
  |_=>false
 |_=>false
def bO.As:bO→Bool
 |.call .. =>true
 |_=>false
def Kg(o:Oper):Option (Option ac):=
 match o.dst with
 |some d=>if d<nt then some (some (ac.dj d))else none
 |none=>some none
def Kh(az:Array Oper)(o:Oper):Option (Option (ac×Bool)):=
 match o.guard with
 |none=>some none
 |some (j,a)=>match(az[j]?).bind (·.dst)with
  |some d=>if d<nt then some (some (ac.dj d,a))else none
  |none=>none
def sa(az:Array Oper)(o:Oper):Option aS:=
 let qP:=(bN P nt o).getD .oW
 let op:=if qP.As&&!yK o.op then .oW else qP
 match Kg nt o,Kh nt az o with
 |some dst,some guard=>some {dst,op,guard,jv:=[],re:=[]}
 |_,_=>none
def order(l:List aS)(b:Array Nat):(fuel:Nat)→(done:Nat)→List Nat→List Nat
 |0,_,a=>a.reverse
 |f+1,done,a=>
  let wD(i:Nat):Bool:=!done.testBit i&&((b.getD i 0)&&&done==b.getD i 0)
  let iT(i:Nat):Bool:=match l[i]? with|some o=>o.op.iT|none=>true
  let c:=(agV l.length).filter wD
  match(c.find? λi=>!iT i)<|>c.head? with
  |some i=>order l b f (done|||2^i) (i::a)
  |none=>a.reverse
def Au(l:List aS)(a:Array Nat)(seen:List Nat)(i:Nat):List ac:=
 seen.filterMap λj=>match l[j]? with
  |some r=>if r.op.mh&&!(a.getD i 0).testBit j then r.dst else none
  |none=>none
def j8(l:List aS)(a:Array Nat)(seen:List Nat)(i:Nat):List i9:=
 seen.filterMap λj=>match l[j]? with
  |some r=>if r.op.j8&&!(a.getD i 0).testBit j then r.dst.map λd=>⟨d,r.op,r.guard⟩else none
  |none=>none
def FJ(l:List aS)(a:Array Nat)(seen:List Nat)(i:Nat)(o:aS):aS:=
 {o with jv:=if o.op.iT||o.op.j8 then Au l a seen i else[],re:=if o.op.iT then j8 l a seen i else[]}
def sc(l:List aS)(a:Array Nat)(seen:List Nat):List Nat→List aS
 |[]=>[]
 |i::b=>
  match l[i]? with
  |some o=>FJ l a seen i o::sc l a (i::seen) b
  |none=>[]
def tF(l:List aS)(a:Array Nat)(i j:Nat):Bool:=
 match l[i]?,l[j]? with
 |some x,some y=>
  let b:=(a.getD j 0).testBit i
  i !=j&&!(a.getD i 0).testBit j&&
  (match x.dst with
   |some d=>(match y.dst with|some e=>d !=e|none=>true)&&(b||!y.lB.contains d)
   |none=>true)&&
  (match y.dst with
   |some d=>!x.lB.contains d||(b&&!x.op.j8)
   |none=>true)&&
  (!x.op.iT||(b&&(a.getD i 0&&&a.getD j 0)==a.getD i 0))
 |_,_=>false
def tG(x:aS):Bool:=
 x.op.iT||x.op.plain||(match x.dst with
  |some d=>x.op.mh||(x.op.j8&&!x.lB.contains d)
  |none=>false)
def yL(l:List aS)(b:Array Nat):List Nat→Bool
 |[]=>true
 |i::a=>(match l[i]? with|some x=>tG x|none=>false)&&a.all (tF l b i)&&yL l b a
def Av(az:Array Oper):Bool:=az.toList.zipIdx.all λp=>p.1.after.all λe=>!Region.binds .any e||decide (e.on<p.2)
def wC(az:Array Oper)(b:Bool):Option (List aS):=do
 let l←az.toList.mapM (sa P nt az)
 if !b then return l
 let a:=Region.before az
 let ap:=order l a az.size 0 []
 if(P.follows .mixedOrders||!Region.departs az)&&Av az&&(agV az.size).all ap.contains&&yL l a ap then return sc l a [] ap else none
class Ov where
 eB:bp→Option Nat
 code:Nat→bp
 Q6:∀b t,eB b=some t→b=code t
variable[Ov]
def eO:Code→Option bp
 |.skip|.label _=>some .skip
 |.region _ az d=>(wC P nt az d).map .region
 |.seq a b=>match eO a,eO b with
  |some a,some b=>some (match Ov.eB (.seq a b)with
   |some t=>.eB t
   |none=>.seq a b)
  |_,_=>none
 |.cond c a b=>match gI P nt c,eO a,eO b with
  |some c,some a,some b=>some (.cond c a b)
  |_,_,_=>none
 |.block id b=>(eO b).map (.block id)
 |.loop b=>(eO b).map .loop
 |.rangeFunc f g as e=>match gI P nt f,eO as,eO e with
  |some f,some as,some e=>if g.toList.all (·<nt)then some (.rangeFunc f (g.toList.map ac.dj) as e)else none
  |_,_,_=>none
 |.exit id=>some (.exit id)
 |.ret=>some .ret
 |.scope b=>eO b
 |.goto _|.refuse _=>none
def Aw:ResultVar→Option iH
 |.tmp t=>if t<nt then some (.tmp (ac.dj t))else none
 |.cell a t=>match oz P t,fE P t with
  |some g,some s=>if a<nt then some (.cell (ac.dj a) g (if g then s else 1))else none
  |_,_=>none
def tH(f:Func):Option aE:=do
 let b←f.body
 let b←eO P f.ntmps b
 let r←f.results.toList.mapM (Aw P f.ntmps)
 return .code f.ntmps r b
end
end Go.ak
namespace Go.ak
structure aL where
 f:ac→Option (Nat×Nat)
 k:Nat→Nat×Nat
instance:CoeFun aL λ_=>ac→Option (Nat×Nat):=⟨aL.f⟩
def cz(b a:aL):Prop:=∀i x,b i=some x→a i=some x∧a.k x.1=b.k x.1
theorem cz.refl(a:aL):cz a a:=λ_ _ b=>⟨b,rfl⟩
theorem cz.trans{a b c:aL}(d:cz a b)(k:cz b c):cz a c:=λi x e=>⟨(k i x (d i x e).1).1,(k i x (d i x e).1).2.trans (d i x e).2⟩
mutual
def VR(e:aL):AV→Value→Prop
 |.tuple l,.tuple cs=>be e l cs.toList
 |.agg l,.agg cs=>be e l cs.toList
 |.bool a,.bool b=>a=b
 |.int k n,.int j m=>k=kc j∧n=m
 |.aC s,.string t=>t.data.toList.map aib=s
 |.aw i o,.pointer (some a)=>∃b x,e i=some (b,x)∧a=⟨b,x+o,none⟩
 |.ls,.pointer none=>True
 |.slice i o len cap ex,.slice (some a) n c=>n=len∧len≤cap∧cap≤c∧(ex=true→c=cap)∧∃b x,e i=some (b,x)∧(c≠0→a=⟨b,x+o,none⟩)∧(ex=false→x+o+c*(e.k b).2≤(e.k b).1)
 |.aP,.slice none 0 0=>True
 |.map i,.map (some b)=>e i=some (b,0)
 |.cL,.map none=>True
 |.func f a b,.func (.func g) c d=>f=g∧be e a c.toList∧be e b d.toList
 |.yield i,.func (.yield b) c d=>e i=some (b,0)∧c= #[]∧d= #[]
 |.nilFunc,.nilFunc=>True
 |.iface t v,.iface u c=>t=u∧VR e v c
 |.nilIface,.nilIface=>True
 |.bX,_=>True
 |_,_=>False
def be(a:aL):List AV→List Value→Prop
 |[],[]=>True
 |v::l,c::m=>VR a v c∧be a l m
 |_,_=>False
end
mutual
theorem VR.mono{m j:aL}(s:cz m j):∀(v:AV)(c:Value),VR m v c→VR j v c
 |.tuple l,.tuple cs,k=>by exact be.mono s l cs.toList k
 |.agg l,.agg cs,k=>by exact be.mono s l cs.toList k
 |.bool _,.bool _,k=>by simpa only[VR]using k
 |.int _ _,.int _ _,k=>by simpa only[VR]using k
 |.aC _,.string _,k=>by simpa only[VR]using k
 |.aw i o,.pointer (some a),k=>by
  obtain⟨b,x,e,rfl⟩:=k;exact⟨b,x,(s _ _ e).1,rfl⟩
 |.ls,.pointer none,_=>by simp only[VR]
 |.slice i o len cap ex,.slice (some a) n c,k=>by
  obtain⟨h1,h2,h3,p,b,x,e,q,r⟩:=k;exact⟨h1,h2,h3,p,b,x,(s _ _ e).1,q,by rw[show j.k b=m.k b from(s _ _ e).2];exact r⟩
 |.aP,.slice none 0 0,_=>by simp only[VR]
 |.map i,.map (some b),k=>by simp only[VR]at k⊢;exact(s _ _ k).1
 |.cL,.map none,_=>by simp only[VR]
 |.func f a b,.func (.func g) c d,k=>by
  simp only[VR]at k⊢;exact⟨k.1,be.mono s a c.toList k.2.1,be.mono s b d.toList k.2.2⟩
 |.yield i,.func (.yield b) c d,k=>by simp only[VR]at k⊢;exact⟨(s _ _ k.1).1,k.2⟩
 |.nilFunc,.nilFunc,_=>by simp only[VR]
 |.iface t v,.iface u c,k=>by simp only[VR]at k⊢;exact⟨k.1,VR.mono s v c k.2⟩
 |.nilIface,.nilIface,_=>by simp only[VR]
 |.bX,_,_=>by simp only[VR]
theorem be.mono{b a:aL}(d:cz b a):∀(l:List AV)(m:List Value),be b l m→be a l m
 |[],[],_=>by simp only[be]
 |v::l,c::m,k=>by simp only[be]at k⊢;exact⟨VR.mono d v c k.1,be.mono d l m k.2⟩
end
theorem be.length{a:aL}:∀{l:List AV}{m:List Value},be a l m→l.length=m.length|[],[],_=>rfl|_::_,_::_,k=>by simp[be.length k.2]|[],_::_,k=>by trivial|_::_,[],k=>by trivial
theorem be.append{a:aL}:∀{l:List AV}{m:List Value}{b:List AV}{c:List Value},be a l m→be a b c→be a (l++b) (m++c)|[],[],_,_,_,d=>by grind|_::_,_::_,_,_,k,d=>by exact⟨k.1,be.append k.2 d⟩|[],_::_,_,_,k,_=>by trivial|_::_,[],_,_,k,_=>by trivial
theorem be.get{b:aL}:∀{l:List AV}{m:List Value},be b l m→∀(i:Nat)(v:AV),l[i]?=some v→∃c,m[i]?=some c∧VR b v c|[],[],_,i,v,d=>by grind|a::l,c::m,k,0,v,d=>by simp_all[be]|a::l,c::m,k,i+1,v,d=>by simpa using be.get k.2 i v d|[],_::_,k,_,_,_=>by grind|_::_,[],k,_,_,_=>by trivial
theorem be.FK{b:aL}:∀{l:List AV}{m:List Value},l.length=m.length→(∀(i:Nat)(v:AV)(c:Value),l[i]?=some v→m[i]?=some c→VR b v c)→be b l m|[],[],_,_=>by trivial|a::l,c::m,d,k=>by exact⟨k 0 a c (by rfl) (by rfl),be.FK (by grind) λi v c h1 h2=>k (i+1) v c (by grind) (by grind)⟩|[],_::_,d,_=>by grind|_::_,[],d,_=>by grind
theorem be.take{a:aL}:∀{l:List AV}{m:List Value}(n:Nat),be a l m→be a (l.take n) (m.take n)|[],[],n,_=>by grind|_::_,_::_,0,_=>by trivial|_::_,_::_,n+1,k=>by exact⟨k.1,be.take n k.2⟩|[],_::_,_,k=>by trivial|_::_,[],_,k=>by trivial
theorem be.drop{a:aL}:∀{l:List AV}{m:List Value}(n:Nat),be a l m→be a (l.drop n) (m.drop n)|[],[],n,_=>by grind|_::_,_::_,0,k=>by grind|_::_,_::_,n+1,k=>by exact be.drop n k.2|[],_::_,_,k=>by trivial|_::_,[],_,k=>by trivial
theorem VR.cells{a:aL}{v:AV}{c:Value}(b:VR a v c)(hd:v.bB=true):be a v.cells c.cells.toList:=by cases v<;>cases c<;>first|(simp[VR]at b;done)|(simp[AV.bB]at hd;done)|(simp only[AV.cells,Value.cells,be,VR]at b⊢;first|exact b|exact⟨b,trivial⟩)
theorem VR.dQ{a:aL}{v:AV}{c:Value}(b:VR a v c)(k:v.dQ=true):(∀l,c≠.agg l)∧∀l,c≠.tuple l:=by cases v<;>cases c<;>simp_all[VR,AV.dQ]
namespace am
variable{h:Type}(d:h)
theorem aD(x:h):∀(p q:ac)(t:am h),(t.set d q x).get d p=if p=q then x else t.get d p|.xH,.xH,t=>by rfl|.xH,.xO q,t=>by rfl|.xH,.xI q,t=>by rfl|.xO p,.xH,t=>by rfl|.xI p,.xH,t=>by rfl|.xO p,.xO q,t=>by simp[set,get,left,aD x p q]|.xI p,.xI q,t=>by simp[set,get,right,aD x p q]|.xO p,.xI q,t=>by rfl|.xI p,.xO q,t=>by rfl
theorem agb(n:Nat):(am.aJ:am h).bq d n=d:=by rfl
theorem Ki(t:am h):t.bq d 0=t.val d:=by cases t<;>rfl
theorem Ax(t:am h)(m:Nat)(a:m % 2=0):t.bq d (m+1)=t.left.bq d (m/2):=by cases t with|aJ=>rfl|node l v r=>simp[a,bq,left]
theorem Ay(t:am h)(m:Nat)(a:¬m % 2=0):t.bq d (m+1)=t.right.bq d (m/2):=by cases t with|aJ=>rfl|node l v r=>simp[a,bq,right]
theorem FL(x:h):∀(f n:Nat)(t:am h)(j:Nat),n≤f→(t.nH d f n x).bq d j=if j=n then x else t.bq d j
 |f,0,t,j,_=>by
  rw[show t.nH d f 0 x=.node t.left x t.right by cases f<;>rfl];cases j with
  |zero=>simp[bq]
  |succ m=>
   simp only[bq,Nat.succ_ne_zero,bK];split;·rename_i c;rw[Ax d t m c]
   rename_i c;rw[Ay d t m c]
 |0,n+1,_,_,c=>by omega
 |f+1,n+1,t,j,c=>by
  by_cases b:n % 2=0
  ·rw[show t.nH d (f+1) (n+1) x=.node (nH d f (n/2) x t.left) (t.val d) t.right by simp[nH,b]];cases j with
   |zero=>simp[bq,Ki]
   |succ m=>
    by_cases a:m % 2=0
    ·rw[Ax d _ m a,left,FL x f (n/2) t.left (m/2) (by omega),Ax d t m a];by_cases e:m=n;·simp[e]
     rw[an (by omega),an (by omega)]
    rw[Ay d _ m a,right,Ay d t m a,an (by omega)]
  rw[show t.nH d (f+1) (n+1) x=.node t.left (t.val d) (nH d f (n/2) x t.right)by simp[nH,b]];cases j with
  |zero=>simp[bq,Ki]
  |succ m=>
   by_cases a:m % 2=0;·rw[Ax d _ m a,left,Ax d t m a,an (by omega)]
   rw[Ay d _ m a,right,FL x f (n/2) t.right (m/2) (by omega),Ay d t m a];by_cases e:m=n;·simp[e]
   rw[an (by omega),an (by omega)]
end am
def ac.al:ac→Nat
 |.xH=>1
 |.xO p=>2*p.al
 |.xI p=>2*p.al+1
theorem ac.tJ:∀p:ac,0<p.al|.xH=>by trivial|.xO p=>by have:=p.tJ;simp_all[al]|.xI p=>by simp[al]
theorem ac.tL:∀{p q:ac},p.al=q.al→p=q|.xH,.xH,_=>rfl|.xH,.xO q,a=>by have:=q.tJ;simp only[al]at a;omega|.xH,.xI q,a=>by have:=q.tJ;simp only[al]at a;omega|.xO p,.xH,a=>by have:=p.tJ;simp only[al]at a;omega|.xI p,.xH,a=>by have:=p.tJ;simp only[al]at a;omega|.xO p,.xO q,a=>by simp only[al]at a;rw[ac.tL (p:=p) (q:=q) (by omega)]|.xI p,.xI q,a=>by simp only[al]at a;rw[ac.tL (p:=p) (q:=q) (by omega)]|.xO p,.xI q,a=>by simp only[al]at a;omega|.xI p,.xO q,a=>by simp only[al]at a;omega
theorem ac.gz:∀p:ac,p.succ.al=p.al+1|.xH=>rfl|.xO p=>rfl|.xI p=>by simp only[succ,al,ac.gz p];rfl
theorem ac.lS:∀t,(ac.dj t).al=t+1|0=>rfl|t+1=>by rw[dj,gz,lS t]
theorem ac.bH{a b:Nat}(c:ac.dj a=ac.dj b):a=b:=by have:=congrArg ac.al c;grind[lS]
theorem ac.gT:∀{p q:ac},ac.beq p q=true↔p=q|.xH,.xH=>by trivial|.xH,.xO q=>by simp[beq]|.xH,.xI q=>by simp[beq]|.xO p,.xH=>by simp[beq]|.xI p,.xH=>by simp[beq]|.xO p,.xO q=>by simp[beq,ac.gT (p:=p) (q:=q)]|.xI p,.xI q=>by simp[beq,ac.gT (p:=p) (q:=q)]|.xO p,.xI q=>by simp[beq]|.xI p,.xO q=>by simp[beq]
def iU(b:aL)(a:Nat)(aa:am AV)(tmps:Array Value):Prop:=
 tmps.size=a∧∀t,t<a→VR b (aa.get .aiw (ac.dj t)) (tmps.getD t undef)
theorem iU.mono{b a:aL}{nt:Nat}{aa:am AV}{tmps:Array Value}(d:cz b a)(k:iU b nt aa tmps):iU a nt aa tmps:=⟨k.1,λt c=>VR.mono d _ _ (k.2 t c)⟩
theorem iU.set{a:aL}{b:Nat}{aa:am AV}{tmps:Array Value}{v:AV}{c:Value}{d:Nat}(k:iU a b aa tmps)(i:VR a v c):iU a b (aa.set .aiw (ac.dj d) v) (tmps.setIfInBounds d c):=by
 refine⟨by simp[k.1],λt f=>?_⟩;rw[am.aD];by_cases e:t=d
 ·subst e;have:t<tmps.size:=by rw[k.1];exact f
  simp_all
 have g:ac.dj t≠ac.dj d:=λj=>e (ac.bH j);rw[an g];have:=k.2 t f;simp_all[undef,Array.getD,aio]
theorem VR.aiw(a:aL):VR a AV.aiw Go.undef:=by trivial
end Go.ak
namespace Go.ak
section
variable[Ov]
section
def b9.aK:b9→List ac
 |.cells _ _ _ _ aK _=>aK
 |_=>[]
def b9.kW:b9→Bool
 |.cells _ _ _ rw _ _=>!rw
 |_=>false
def ch(a:aL):List aR→List MapEntry→Prop
 |[],[]=>True
 |e::l,c::m=>VR a e.key c.key∧VR a e.val c.val∧e.born=c.born∧ch a l m
 |_,_=>False
def dG(a:aL):List aR→List MapEntry→Prop
 |[],[]=>True
 |e::l,c::m=>VR a e.key c.key∧VR a e.val c.val∧dG a l m
 |_,_=>False
def pI:rV→LoopState→Prop
 |.ready,.ready|.busy,.busy|.done,.done|.exhausted,.exhausted=>True
 |_,_=>False
def pJ:cG→Option Code→Prop
 |.none,none=>True
 |.exit i,some (.exit j)=>i=j
 |.ret,some .ret=>True
 |_,_=>False
def o0(a:aL):Option ac→Option Nat→Prop
 |none,none=>True
 |some i,some b=>a i=some (b,0)
 |_,_=>False
def b9.len:b9→Nat
 |.cells _ n _ _ _ _=>n
 |_=>0
variable(P:Program)
def jR(br:Array MapEntry)(k:Nat):Prop:=(br.toList.map (·.born)).Nodup∧∀c∈br.toList,c.born<k
def OR(g:aL):b9→Nat→Obj→Prop
 |.cells c n e rw _ fz,off,.cells cs u fr=>u=e∧off+n≤cs.size∧(∀i,i<n→∃x,cs[off+i]?=some x∧VR g (c.bq .aiw i) x)∧
   (rw=true→∀i,off+fz≤i→i<cs.size→¬(fr.1≤i∧i<fr.2))
 |.map es a,off,.map br k=>off=0∧k=a∧jR br k∧ch g es br.toList
 |.dB es,off,.map br k=>off=0∧jR br k∧∃l:List MapEntry,l.Perm br.toList∧dG g es l
 |.oq s j h,off,.stringIter bs p=>off=0∧p=h∧bs.data.toList.map aib=s∧j=s.drop h
 |.loop st cq _ aa v as w d,off,.loop r=>off=0∧pI st r.state∧pJ cq r.pending∧g d=some (r.defers,0)∧
   r.params.toList.map ac.dj=v∧∃q,iU g q aa r.tmps∧(∀p∈r.params.toList,p<q)∧eO P q r.assign=some as∧eO P q r.body=some w
 |.deferred b,off,.deferred cs=>off=0∧(b=false→cs=some [])
 |.mapIter m f seen o,off,.mapIter y s z t=>off=0∧o0 g m y∧s=f∧z.toList=seen∧t=o
 |_,_,_=>False
theorem ch.mono{b a:aL}(h:cz b a):∀{l:List aR}{m:List MapEntry},ch b l m→ch a l m|[],[],_=>by trivial|_::_,_::_,k=>by exact⟨VR.mono h _ _ k.1,VR.mono h _ _ k.2.1,k.2.2.1,ch.mono h k.2.2.2⟩|[],_::_,k=>by trivial|_::_,[],k=>by trivial
theorem jR.empty:jR #[] 0:=⟨by simp,λc h=>by grind⟩
theorem jR.modify{br:Array MapEntry}{k:Nat}(h:jR br k)(i:Nat){f:MapEntry→MapEntry}(g:∀e,(f e).born=e.born):jR (br.modify i f) k:=by
 have:∀(l:List MapEntry)(i:Nat),(l.modify i f).map (·.born)=l.map (·.born):=by intro l;induction l with|nil=>intro i;cases i<;>rfl|cons a l j=>intro i;cases i with|zero=>simp[g]|succ i=>simp[j]
 refine⟨by rw[Array.toList_modify,this];exact h.1,λc m=>?_⟩;have b:c.born∈(br.toList.modify i f).map (·.born):=ag5 (by rw[←Array.toList_modify];exact m);rw[this,ag3]at b;obtain⟨d,hd,e⟩:=b;rw[←e];exact h.2 d hd
theorem jR.push{br:Array MapEntry}{k:Nat}(h:jR br k){e:MapEntry}(he:e.born=k):jR (br.push e) (k+1):=by
 refine⟨?_,λc f=>?_⟩;·rw[Array.toList_push,ahk,ahy];refine⟨h.1,by simp,λa g b hb=>?_⟩;simp only[agN,ahX,ac3]at hb;rw[ag3]at g;obtain⟨d,hd,rfl⟩:=g;have:=h.2 d hd;omega
 rw[Array.toList_push,agI]at f;rcases f with f|f;·have:=h.2 c f;omega
 grind
theorem jR.erase{br:Array MapEntry}{k:Nat}(h:jR br k)(i:Nat):jR (br.eraseIdxIfInBounds i) k:=by
 refine⟨?_,λc a=>?_⟩;·rw[Array.toList_eraseIdxIfInBounds];exact h.1.sublist ((List.eraseIdx_sublist _ _).map _)
 rw[Array.toList_eraseIdxIfInBounds]at a;exact h.2 c ((List.eraseIdx_sublist _ _).subset a)
theorem jR.clear{k:Nat}:jR #[] k:=⟨by simp,λc h=>by grind⟩
theorem dG.mono{b a:aL}(h:cz b a):∀{l:List aR}{m:List MapEntry},dG b l m→dG a l m|[],[],_=>by trivial|_::_,_::_,k=>by exact⟨VR.mono h _ _ k.1,VR.mono h _ _ k.2.1,dG.mono h k.2.2⟩|[],_::_,k=>by trivial|_::_,[],k=>by trivial
variable{P}
theorem OR.mono{c a:aL}(h:cz c a){o:b9}{off:Nat}{b:Obj}(k:OR P c o off b):OR P a o off b:=by
 cases o<;>cases b<;>simp only[OR]at k⊢;·grind[VR.mono]
 ·grind[ch.mono]
 ·grind[dG.mono]
 ·omega
 ·obtain⟨h1,h2,h3,d,e,nt,f,g⟩:=k;exact⟨h1,h2,h3,(h _ _ d).1,e,nt,iU.mono h f,g⟩
 ·omega
 refine⟨k.1,?_,k.2.2⟩;have:=k.2.1;rename_i m _ _ _ i _ _ _;cases m<;>cases i<;>simp only[o0]at this⊢;exact(h _ _ this).1
structure cJ where
 w:Nat→Prop
 r:Nat→Prop
 un:ac→Prop
 eT:ac→Prop
structure d9(Wr:cJ)(w w':World):Prop where
 os:w'.os=w.os
 tape:w'.tape=w.tape
 output:w'.output=w.output
 size:w.heap.size≤w'.heap.size
 block:∀k,k<w.heap.size→¬Wr.w k→w'.heap[k]?=w.heap[k]?
theorem d9.refl(a:cJ)(w:World):d9 a w w:=⟨rfl,rfl,rfl,adW _,λ_ _ _=>rfl⟩
theorem d9.trans{d:cJ}{a b c:World}(h:d9 d a b)(k:d9 d b c):d9 d a c:=⟨k.os.trans h.os,k.tape.trans h.tape,k.output.trans h.output,ahY h.size k.size,λi hi e=>(k.block i (ag6 hi h.size) e).trans (h.block i hi e)⟩
theorem d9.drew{a:cJ}{w w':World}(h:d9 a w w'):d9 a w {w' with drawn:=w'.drawn+1}:=⟨h.os,h.tape,h.output,h.size,h.block⟩
variable(P)
def gB(q:Nat×Nat):b9→Obj→Prop
 |.cells _ _ e _ _ _,.cells cs _ _=>q=(cs.size,(fE P e).getD 0)
 |_,_=>True
structure bt(Wr:cJ)(ρ:aL)(H:af)(w:World):Prop where
 ev:∀i,H.get i≠.none→∃b x ob,ρ i=some (b,x)∧w.heap[b]?=some ob∧OR P ρ (H.get i) x ob
 kH:∀i j b x y,i≠j→H.get i≠.none→H.get j≠.none→ρ i=some (b,x)→ρ j=some (b,y)→(i∈(H.get j).aK∧x+(H.get i).len≤y+(H.get j).len)∨(j∈(H.get i).aK∧y+(H.get j).len≤x+(H.get i).len)
 aK:∀i j,i∈(H.get j).aK→i.al<H.next.al∧(H.get i≠.none→(H.get i).kW=true)
 wr:∀i b x,H.get i≠.none→(H.get i).kW=false→ρ i=some (b,x)→Wr.w b
 dV:∀i,H.next.al≤i.al→H.get i=.none∧ρ i=none
 new:∀k,w.heap.size≤k→Wr.w k∧Wr.r k
 lT:∀g,g<P.globals.size→ρ (ac.dj g)=some (g,0)
 jQ:∀i b x ob,H.get i≠.none→ρ i=some (b,x)→w.heap[b]?=some ob→gB P (ρ.k b) (H.get i) ob
 fu:∀i b x,ρ i=some (b,x)→b<w.heap.size
 rd:∀i b x,H.get i≠.none→ρ i=some (b,x)→Wr.r b
 un:∀i,Wr.un i→H.get i=.none∧i.al<H.next.al∧∀j,i∉(H.get j).aK
 eT:∀i,Wr.eT i→Wr.un i∧ρ i=none
variable{P}
theorem bt.drew{a:cJ}{b:aL}{H:af}{w:World}(h:bt P a b H w):bt P a b H {w with drawn:=w.drawn+1}:=⟨h.ev,h.kH,h.aK,h.wr,h.dV,h.new,h.lT,h.jQ,h.fu,h.rd,h.un,h.eT⟩
theorem af.aD(H:af)(i j:ac)(o:b9):(H.set i o).get j=if j=i then o else H.get j:=am.aD _ _ _ _ _
theorem af.dt(H:af)(j:ac)(o:b9):(H.new o).get j=if j=H.next then o else H.get j:=am.aD _ _ _ _ _
theorem af.fR(H:af)(i:ac)(o:b9):(H.set i o).next=H.next:=rfl
theorem af.wE:∀(l:List ac)(H:af)(j:ac),(H.fL l).get j=if j∈l then .none else H.get j|[],H,j=>by simp[af.fL]|i::l,H,j=>by rw[af.fL,af.wE l,af.aD];by_cases h:j∈l<;>by_cases e:j=i<;>simp[h,e]
theorem af.jS:∀(l:List ac)(H:af),(H.fL l).next=H.next|[],_=>rfl|i::l,H=>by rw[af.fL,af.jS l];rfl
def aL.add(a:aL)(i:ac)(b x:Nat)(q:Nat×Nat):aL:=⟨λj=>if j=i then some (b,x)else a j,λc=>if c=b then q else a.k c⟩
theorem aL.fy(a:aL)(i:ac)(b x:Nat)(q:Nat×Nat):a.add i b x q i=some (b,x):=by simp[aL.add]
theorem aL.tP(a:aL)(i:ac)(b x:Nat)(q:Nat×Nat):(a.add i b x q).k b=q:=by simp[aL.add]
theorem aL.sd{a:aL}{i:ac}(b x:Nat)(q:Nat×Nat)(h:a i=none)(hb:∀j c y,a j=some (c,y)→c=b→a.k b=q):cz a (a.add i b x q):=by
 intro j y e;refine⟨?_,?_⟩;·show(if j=i then some (b,x)else a j)=some y;grind
 show(if y.1=b then q else a.k y.1)=a.k y.1;grind
theorem bt.alloc{v:cJ}{n:aL}{H:af}{w:World}(h:bt P v n H w){o:b9}{ob:Obj}(q:Nat×Nat)(hq:gB P q o ob)(K:o≠.none)(D:o.aK=[])(z:OR P (n.add H.next w.heap.size 0 q) o 0 ob):cz n (n.add H.next w.heap.size 0 q)∧bt P v (n.add H.next w.heap.size 0 q) (H.new o) {w with heap:=w.heap.push ob}∧d9 v w {w with heap:=w.heap.push ob}:=by
 have G:=h.dV H.next (adW _);have d:cz n (n.add H.next w.heap.size 0 q):=aL.sd w.heap.size 0 q G.2 (λj c y e L=>by have:=h.fu j c y e;omega);have r:∀i,H.get i≠.none→∃b x ob,n i=some (b,x)∧b<w.heap.size∧w.heap[b]?=some ob∧OR P n (H.get i) x ob:=by
  intro i hi;obtain⟨b,x,ob,e,hb,z⟩:=h.ev i hi;refine⟨b,x,ob,e,?_,hb,z⟩;rcases ahz b w.heap.size with hl|hl;·exact hl
  simp[ahE hl]at hb
 refine⟨d,⟨?_,?_,?_,?_,?_,?_,?_,?_,?_,?_,?_,?_⟩,⟨rfl,rfl,rfl,by simp,?_⟩⟩
 ·intro i hi;rw[af.dt]at hi⊢;by_cases e:i=H.next;·subst e;rw[aH rfl];exact⟨w.heap.size,0,ob,aL.fy ..,by simp,z⟩
  rw[an e]at hi⊢;obtain⟨b,x,p,s,hl,hb,B⟩:=r i hi;refine⟨b,x,p,(d _ _ s).1,?_,OR.mono d B⟩;show(w.heap.push ob)[b]?=_;rw[ahS,an (by omega)];exact hb
 ·intro i j b x y t hi hj l m;rw[af.dt]at hi hj;rw[af.dt,af.dt];by_cases e1:i=H.next;·subst e1;have e2:j≠H.next:=λh=>t h.symm;rw[an e2]at hj;obtain⟨I,J,_,s,hl,_⟩:=r j hj;rw[aL.fy]at l;have:=(d _ _ s).1;rw[this]at m;injection l with l;injection m with m;injection l with l _;injection m with m _;omega
  by_cases e2:j=H.next;·subst e2;rw[an e1]at hi;obtain⟨I,J,_,s,hl,_⟩:=r i hi;rw[aL.fy]at m;have:=(d _ _ s).1;rw[this]at l;injection l with l;injection m with m;injection l with l _;injection m with m _;omega
  rw[an e1]at hi⊢;rw[an e2]at hj⊢;simp only[aL.add,an e1,an e2]at l m;exact h.kH i j b x y t hi hj l m
 ·intro i j hj;rw[af.dt]at hj;by_cases e2:j=H.next;·rw[aH e2,D]at hj;cases hj
  rw[an e2]at hj;obtain⟨h1,h2⟩:=h.aK i j hj;have e1:i≠H.next:=λe=>by subst e;omega
  rw[af.dt,an e1];refine⟨?_,h2⟩;show i.al<H.next.succ.al;rw[ac.gz];omega
 ·intro i b x hi A e;rw[af.dt]at hi A;by_cases e1:i=H.next;·subst e1;rw[aL.fy]at e;injection e with e;injection e with e _;exact(h.new b (by omega)).1
  rw[an e1]at hi A;simp only[aL.add,an e1]at e;exact h.wr i b x hi A e
 ·intro i hi;have C:H.next.succ.al≤i.al:=hi;rw[ac.gz]at C;have u:i≠H.next:=λe=>by subst e;omega
  rw[af.dt,an u];obtain⟨a,b⟩:=h.dV i (by omega);exact⟨a,by simp[aL.add,u,b]⟩
 ·intro k E;exact h.new k (by simp at E;omega)
 ·intro g hg;exact(d _ _ (h.lT g hg)).1
 ·intro i b x p hi e hb;rw[af.dt]at hi⊢;by_cases e1:i=H.next;·subst e1;rw[aL.fy]at e;injection e with e;injection e with e _;subst e;rw[aH rfl,aL.tP];have f:(w.heap.push ob)[w.heap.size]?=some p:=hb;rw[ahS,aH rfl]at f;injection f with f;rw[←f];exact hq
  rw[an e1]at hi⊢;simp only[aL.add,an e1]at e;have F:=h.fu i b x e;have f:(w.heap.push ob)[b]?=some p:=hb;rw[ahS,an (by omega)]at f;rw[show(n.add H.next w.heap.size 0 q).k b=n.k b from(d _ _ e).2];exact h.jQ i b x p hi e f
 ·intro i b x e;show b<(w.heap.push ob).size;rw[Array.size_push];by_cases e1:i=H.next;·subst e1;rw[aL.fy]at e;injection e with e;injection e with e _;omega
  simp only[aL.add,an e1]at e;have:=h.fu i b x e;omega
 ·intro i b x hi e;rw[af.dt]at hi;by_cases e1:i=H.next;·subst e1;rw[aL.fy]at e;injection e with e;injection e with e _;exact(h.new b (by omega)).2
  rw[an e1]at hi;simp only[aL.add,an e1]at e;exact h.rd i b x hi e
 ·intro i hi;obtain⟨h1,h2,h3⟩:=h.un i hi;have e1:i≠H.next:=λe=>by subst e;omega
  refine⟨by rw[af.dt,an e1];exact h1,?_,λj hj=>?_⟩;·show i.al<H.next.succ.al;rw[ac.gz];omega
  rw[af.dt]at hj;by_cases e2:j=H.next;·rw[aH e2,D]at hj;cases hj
  rw[an e2]at hj;exact h3 j hj
 ·intro i hi;obtain⟨h1,h2⟩:=h.eT i hi;have e1:i≠H.next:=λe=>by have:=(h.un i h1).2.1;subst e;omega
  exact⟨h1,by simp[aL.add,e1,h2]⟩
 intro k E _;show(w.heap.push ob)[k]?=_;rw[ahS,an (by omega)]
theorem bt.aF{d:cJ}{a:aL}{H:af}{w:World}(h:bt P d a H w){i:ac}(hi:H.get i≠.none):∃b x c,a i=some (b,x)∧b<w.heap.size∧w.heap[b]?=some c∧OR P a (H.get i) x c:=by obtain⟨b,x,c,e,hb,f⟩:=h.ev i hi;grind
theorem bt.CR{a:cJ}{b:aL}{H:af}{w:World}(h:bt P a b H w){i:ac}(hi:H.get i≠.none):i.al<H.next.al:=by
 rcases ahz i.al H.next.al with hl|hl;·omega
 exact absurd (h.dV i hl).1 hi
theorem bt.se{E:cJ}{A:aL}{H:af}{w:World}(h:bt P E A H w){i:ac}{b x:Nat}{o':b9}{ob':Obj}(hi:H.get i≠.none)(q:(H.get i).kW=false)(hb:A i=some (b,x))(O:o'.aK=[])(R:OR P A o' x ob')(S:gB P (A.k b) o' ob'){w':World}(s:w'.heap=w.heap.setIfInBounds b ob')(G:w'.os=w.os)(I:w'.tape=w.tape)(J:w'.output=w.output):bt P E A ((H.fL (H.get i).aK).set i o') w'∧d9 E w w':=by
 obtain⟨W,X,Y,C,hl,T,V⟩:=h.aF hi;rw[hb]at C;injection C with C;injection C with e1 e2;subst e1;have d:∀j,((H.fL (H.get i).aK).set i o').get j=if j=i then o' else if j∈(H.get i).aK then .none else H.get j:=by intro j;rw[af.aD,af.wE]
 have a:∀j,j≠i→(if j∈(H.get i).aK then b9.none else H.get j)≠.none→j∉(H.get i).aK∧H.get j≠.none:=by
  intro j _ hj;by_cases m:j∈(H.get i).aK;·rw[aH m]at hj;exact absurd rfl hj
  rw[an m]at hj;exact⟨m,hj⟩
 have r:∀j y c,j≠i→j∉(H.get i).aK→H.get j≠.none→A j=some (c,y)→c≠b:=by
  intro j y c K L hj g p;subst p;rcases h.kH i j c x y (λe=>K e.symm) hi hj hb g with⟨m,_⟩|⟨m,_⟩;·have:=(h.aK i j m).2 hi;rw[q]at this;cases this
  exact L m
 refine⟨⟨?_,?_,?_,?_,?_,?_,?_,?_,?_,?_,?_,?_⟩,⟨G,I,J,by rw[s];simp,?_⟩⟩
 ·intro j hj;rw[d]at hj⊢;by_cases e:j=i;·subst e;rw[aH rfl];exact⟨b,x,ob',hb,by rw[s,ag8];simp[hl],R⟩
  rw[an e]at hj⊢;obtain⟨m,f⟩:=a j e hj;rw[an m];obtain⟨c,y,F,Q,p,M⟩:=h.ev j f;have:=r j y c e m f Q;exact⟨c,y,F,Q,by rw[s,ag8,an (λh=>this h.symm)];exact p,M⟩
 ·intro j k c y z B hj l g t;rw[d]at hj l;rw[d,d];by_cases e1:j=i;·subst e1;have e2:k≠j:=λh=>B h.symm;rw[an e2]at l;obtain⟨m,u⟩:=a k e2 l;rw[hb]at g;injection g with g;injection g with g _;exact absurd g.symm (r k z c e2 m u t)
  by_cases e2:k=i;·subst e2;rw[an e1]at hj;obtain⟨m,f⟩:=a j e1 hj;rw[hb]at t;injection t with t;injection t with t _;exact absurd t.symm (r j y c e1 m f g)
  rw[an e1]at hj⊢;rw[an e2]at l⊢;obtain⟨o,f⟩:=a j e1 hj;obtain⟨n,u⟩:=a k e2 l;rw[an o,an n];exact h.kH j k c y z B f u g t
 ·intro j k l;rw[d]at l;have v:((H.fL (H.get i).aK).set i o').next=H.next:=by rw[af.fR,af.jS]
  rw[v];by_cases e2:k=i;·rw[aH e2,O]at l;cases l
  rw[an e2]at l;by_cases n:k∈(H.get i).aK;·rw[aH n]at l;cases l
  rw[an n]at l;obtain⟨h1,h2⟩:=h.aK j k l;refine⟨h1,λhj=>?_⟩;rw[d]at hj⊢;by_cases e1:j=i;·subst e1;have:=h2 hi;rw[q]at this;cases this
  rw[an e1]at hj⊢;obtain⟨o,f⟩:=a j e1 hj;rw[an o];exact h2 f
 ·intro j c y hj D g;rw[d]at hj D;by_cases e1:j=i;·subst e1;exact h.wr j c y hi q g
  rw[an e1]at hj D;obtain⟨o,f⟩:=a j e1 hj;rw[an o]at D;exact h.wr j c y f D g
 ·intro j hj;have f:H.next.al≤j.al:=by rw[af.fR,af.jS]at hj;exact hj
  obtain⟨h1,h2⟩:=h.dV j f;refine⟨?_,h2⟩;rw[d];by_cases e1:j=i;·subst e1;exact absurd h1 hi
  rw[an e1];split;·rfl
  exact h1
 ·intro k l;exact h.new k (by rw[s]at l;simpa using l)
 ·exact h.lT
 ·intro j c y F hj g p;rw[d]at hj⊢;by_cases e:j=i;·subst e;rw[aH rfl];rw[hb]at g;injection g with g;injection g with g _;subst g;rw[s,ag8]at p;simp only[hl,bm,acm]at p;rw[←p];exact S
  rw[an e]at hj⊢;obtain⟨m,f⟩:=a j e hj;rw[an m];have:=r j y c e m f g;rw[s,ag8,an (λh=>this h.symm)]at p;exact h.jQ j c y F f g p
 ·intro j c y g;rw[s,Array.size_setIfInBounds];exact h.fu j c y g
 ·intro j c y hj g;rw[d]at hj;by_cases e:j=i;·subst e;exact h.rd j c y hi g
  rw[an e]at hj;exact h.rd j c y (a j e hj).2 g
 ·intro j hj;have v:((H.fL (H.get i).aK).set i o').next=H.next:=by rw[af.fR,af.jS]
  rw[v];obtain⟨h1,h2,h3⟩:=h.un j hj;refine⟨?_,h2,λk l=>?_⟩;·rw[d,an (λe=>hi (by rw[←e];exact h1)),h1];split<;>rfl
  rw[d]at l;by_cases e2:k=i;·rw[aH e2,O]at l;cases l
  rw[an e2]at l;by_cases n:k∈(H.get i).aK;·rw[aH n]at l;cases l
  rw[an n]at l;exact h3 k l
 ·exact h.eT
 intro k l N;have:k≠b:=λe=>N (e▸h.wr i b x hi q hb);rw[s,ag8,an (λh=>this h.symm)]
theorem bt.yM{a:cJ}{b:aL}{H:af}{w w':World}(h:bt P a b H w)(e:w'.heap=w.heap):bt P a b H w':=⟨by rw[e];exact h.ev,h.kH,h.aK,h.wr,h.dV,by rw[e];exact h.new,h.lT,by rw[e];exact h.jQ,by rw[e];exact h.fu,h.rd,h.un,h.eT⟩
theorem d9.yM{f:cJ}{w a w':World}(h:d9 f w a)(e:w'.heap=a.heap)(b:w'.os=a.os)(c:w'.tape=a.tape)(d:w'.output=a.output):d9 f w w':=⟨b.trans h.os,c.trans h.tape,d.trans h.output,by rw[e];exact h.size,λk h1 h2=>by rw[e];exact h.block k h1 h2⟩
end
section
variable{P:Program}
theorem tQ(b o i:Nat):(⟨b,o,none⟩:Addr).add i=⟨b,o+i,none⟩:=by simp[Addr.add]
theorem FM(w:World){b:Nat}{cs:Array Value}{a:TypeId}{fr:Nat×Nat}(h:w.heap[b]?=some (.cells cs a fr))(o:Nat):w.cell? ⟨b,o,none⟩=cs[o]?:=by simp[h,World.cell?]
theorem Q7(w:World){b:Nat}{cs:Array Value}{a:TypeId}{fr:Nat×Nat}(h:w.heap[b]?=some (.cells cs a fr))(o:Nat):w.frozen? ⟨b,o,none⟩=(decide (fr.1≤o)&&decide (o<fr.2)):=by simp[h,World.frozen?]
theorem Q8(w:World){b o:Nat}{v:Value}(h:w.cell? ⟨b,o,none⟩=some v):(load ⟨b,o,none⟩).run P w=.ok v w:=by simp[h]
theorem Az(w:World){b:Nat}{cs:Array Value}{a:TypeId}{fr:Nat×Nat}(h:w.heap[b]?=some (.cells cs a fr))(o m:Nat)(c:o+m≤cs.size):(loadCells ⟨b,o,none⟩ m).run P w=.ok ((cs.toList.drop o).take m).toArray w:=by
 have hl:((cs.toList.drop o).take m).length=m:=by simp;omega
 grind[run_loadCells_list,tQ,FM]
def wr(cs:Array Value):Nat→List Value→Array Value
 |_,[]=>cs
 |o,v::l=>wr (cs.setIfInBounds o v) (o+1) l
theorem tT:∀(l:List Value)(cs:Array Value)(o:Nat),(wr cs o l).size=cs.size|[],_,_=>rfl|v::l,cs,o=>by rw[wr,tT l];simp
theorem AA:∀(l:List Value)(cs:Array Value)(o j:Nat),o+l.length≤cs.size→(wr cs o l)[j]?=if o≤j∧j<o+l.length then l[j - o]? else cs[j]?
 |[],cs,o,j,_=>by rw[wr,an (by simp only[List.length_nil];omega)]
 |v::l,cs,o,j,h=>by
  simp only[ahh]at h;rw[wr,AA l _ _ _ (by simp;omega)];simp only[ahh];by_cases h1:o+1≤j∧j<o+1+l.length;·rw[aH h1,aH (by omega)];rw[show j - o=(j - (o+1))+1 by omega];simp
  rw[an h1];by_cases h2:j=o;·subst h2;rw[aH (by omega)];rw[ag8];simp;omega
  rw[an (by omega),ag8,an (λe=>h2 e.symm)]
theorem Q9(w:World){b:Nat}{cs:Array Value}{a:TypeId}{fr:Nat×Nat}(h:w.heap[b]?=some (.cells cs a fr))(o:Nat)(v:Value):(w.setCell ⟨b,o,none⟩ v).heap=w.heap.setIfInBounds b (.cells (cs.setIfInBounds o v) a fr):=by
 have hl:b<w.heap.size:=by
  rcases ahz b w.heap.size with hl|hl;·exact hl
  simp[ahE hl]at h
 unfold World.setCell;grind
theorem FN(b:Nat)(a:TypeId)(fr:Nat×Nat):∀(l:List Value)(w:World)(cs:Array Value)(o:Nat),w.heap[b]?=some (.cells cs a fr)→(w.setCells b o l).heap=w.heap.setIfInBounds b (.cells (wr cs o l) a fr)∧(w.setCells b o l).os=w.os∧(w.setCells b o l).tape=w.tape∧(w.setCells b o l).output=w.output
 |[],w,cs,o,h=>by refine⟨?_,rfl,rfl,rfl⟩;simp only[World.setCells,wr];grind
 |v::l,w,cs,o,h=>by
  have h1:=Q9 w h o v;have hl:b<w.heap.size:=by
   rcases ahz b w.heap.size with hl|hl;·exact hl
   simp[ahE hl]at h
  have h2:(w.setCell ⟨b,o,none⟩ v).heap[b]?=some (.cells (cs.setIfInBounds o v) a fr):=by rw[h1,ag8];simp[hl]
  obtain⟨e1,e2,c,d⟩:=FN b a fr l (w.setCell ⟨b,o,none⟩ v) _ (o+1) h2;simp only[World.setCells,wr];refine⟨?_,e2,c,d⟩;grind
theorem Kj(w:World){b:Nat}{cs:Array Value}{a:TypeId}{fr:Nat×Nat}(h:w.heap[b]?=some (.cells cs a fr))(o:Nat)(l:List Value)(d:o+l.length≤cs.size)(c:∀i,o≤i→i<o+l.length→¬(fr.1≤i∧i<fr.2))(h1:∀v∈l,v.oneCell'=true):(storeCells ⟨b,o,none⟩ l).run P w=.ok () (w.setCells b o l):=by have:=run_storeCells_cells (P:=P) b o l 0 w (λj hj=>by rw[FM w h];simp;omega) (λj hj=>by rw[Q7 w h];have:=c (o+0+j) (by omega) (by omega);simp only[Bool.and_eq_false_iff,decide_eq_false_iff_not];omega) h1;omega
theorem mL:∀(l:List AV)(c:am AV)(o j:Nat),(fD c o l).bq .aiw j=if o≤j∧j<o+l.length then l.getD (j - o) .aiw else c.bq .aiw j
 |[],c,o,j=>by rw[fD,an (by simp only[List.length_nil];omega)]
 |v::l,c,o,j=>by
  rw[fD,mL l,am.FL _ _ _ _ _ _ (adW _)];simp only[ahh];by_cases h1:o+1≤j∧j<o+1+l.length;·rw[aH h1,aH (by omega),show j - o=(j - (o+1))+1 by omega];simp
  rw[an h1];by_cases h2:j=o;·subst h2;rw[aH rfl,aH (by omega)];simp
  rw[an h2,an (by omega)]
theorem pa(l:List AV)(j:Nat)(h:j<l.length):(cM l).bq .aiw j=l.getD j .aiw:=by simp_all[cM,mL,aH]
theorem CS:∀(m:Nat)(c:am AV)(n o:Nat)(l:List AV),ip c n o m=some l→l.length=m∧(0<m→o+m≤n)∧∀j,j<m→l[j]?=some (c.bq .aiw (o+j))
 |0,c,n,o,l,h=>by simp_all[ip,acm]
 |m+1,c,n,o,l,h=>by
  simp only[ip]at h;split at h
  ·split at h;·rename_i a hl;simp only[acm]at h;subst h;obtain⟨h1,h2,h3⟩:=CS m c n (o+1) a hl;grind
   grind
  grind
theorem CT{f:aL}{c:am AV}{n e:Nat}{b:Bool}{aK:List ac}{fz x:Nat}{cs:Array Value}{g:TypeId}{fr:Nat×Nat}(h:OR P f (.cells c n e b aK fz) x (.cells cs g fr)){o m:Nat}{l:List AV}(hl:ip c n o m=some l):be f l ((cs.toList.drop (x+o)).take m)∧(0<m→x+o+m≤cs.size):=by
 obtain⟨_,h2,h3,_⟩:=h;obtain⟨p,j,a3⟩:=CS m c n o l hl;have d:0<m→x+o+m≤cs.size:=λk=>by have:=j k;omega
 refine⟨be.FK ?_ ?_,d⟩;·grind
 intro i v q a r;have hi:i<m:=by
  rcases ahz i m with h|h;·exact h
  rw[List.getElem?_eq_none (by omega)]at a;cases a
 rw[a3 i hi]at a;injection a with a;subst a;obtain⟨y,s,t⟩:=h3 (o+i) (by omega);grind
theorem be.FO{b:aL}:∀{l:List AV}{m:List Value},be b l m→dI l=true→∀v∈m,v.oneCell'=true
 |[],[],_,_,_,h=>by grind
 |a::l,c::m,k,h,v,d=>by
  simp only[dI,agM]at h;rcases adC.1 d with e|e;·subst e;have:=VR.dQ k.1 h.1;cases v<;>simp_all[Value.oneCell']
  exact be.FO k.2 h.2 v e
 |[],_::_,k,_,_,_=>by trivial
 |_::_,[],k,_,_,_=>by grind
theorem AB{v:cJ}{t:aL}{H H':af}{w:World}(h:bt P v t H w){i:ac}{o:Nat}{l:List AV}(d:iI H i o l=some H'){b x:Nat}(hb:t i=some (b,x)){m:List Value}(z:be t l m):(storeCells ⟨b,x+o,none⟩ m).run P w=.ok () (w.setCells b (x+o) m)∧bt P v t H' (w.setCells b (x+o) m)∧d9 v w (w.setCells b (x+o) m):=by
 unfold iI at d;split at d
 ·rename_i c n e aK fz hi;split at d
  ·rename_i B;simp only[agM,decide_eq_true_eq]at B;obtain⟨⟨O,Q⟩,A⟩:=B;injection d with d;subst d;have f:H.get i≠.none:=by rw[hi];simp
   obtain⟨R,S,F,u,hl,g,a⟩:=h.aF f;rw[hb]at u;injection u with u;injection u with e1 e2;subst e1;subst e2;rw[hi]at a;cases F with
   |cells cs C fr=>
    simp only[OR]at a;obtain⟨G,I,J,D⟩:=a;have E:=be.length z;have s:=Kj (P:=P) w g (x+o) m (by omega) (λj p k=>D trivial j (by omega) (by omega)) (be.FO z A);obtain⟨e1,e2,K,L⟩:=FN b C fr m w cs (x+o) g;have:=h.se (i:=i) (o':=.cells (fD c o l) n e true [] fz) (ob':=.cells (wr cs (x+o) m) C fr) f (by rw[hi];rfl) hb rfl (by
     simp only[OR];refine⟨G,by rw[tT];exact I,λj hj=>?_,λ_ j p k=>D trivial j p (by rw[tT]at k;exact k)⟩;rw[mL,AA _ _ _ _ (by omega)];by_cases q:o≤j∧j<o+l.length
     ·rw[aH q,aH (by omega),show x+j - (x+o)=j - o by omega];have r:j - o<l.length:=by omega
      obtain⟨y,M,N⟩:=be.get z (j - o) l[j - o] (by simp[r]);exact⟨y,M,by simpa[List.getD,r]using N⟩
     rw[an q,an (by omega)];exact J j hj) (by have:=h.jQ i b x _ f hb g;rw[hi]at this;simp only[gB]at this⊢;rw[tT];exact this) e1 e2 K L;rw[hi]at this;exact⟨s,this.1,this.2⟩
   |_=>simp[OR]at a
  cases d
 cases d
end
section
variable{P:Program}
theorem bt.Kk{Wr:cJ}{F:aL}{H:af}{w:World}(h:bt P Wr F H w){i:ac}{c:am AV}{m e:Nat}{aK:List ac}{fz:Nat}(hi:H.get i=.cells c m e true aK fz){b x:Nat}(hb:F i=some (b,x)){c2:am AV}{n2 e2 fz2 b2 x2:Nat}{ob2:Obj}(q:Nat×Nat)(hq:gB P q (.cells c2 n2 e2 true (i::aK) fz2) ob2)(a8:b2=b→q=F.k b)(hr:OR P (F.add H.next b2 x2 q) (.cells c2 n2 e2 true (i::aK) fz2) x2 ob2){w':World}(a':w'.os=w.os)(ba:w'.tape=w.tape)(bb:w'.output=w.output)(d:(b2=w.heap.size∧w'.heap=w.heap.push ob2)∨(b2=b∧w'.heap=w.heap.setIfInBounds b ob2∧x+m≤x2+n2∧∃cs N el fr,w.heap[b]?=some (.cells cs el fr)∧ob2=.cells N el fr∧N.size=cs.size∧∀j,j<x+m→N[j]?=cs[j]?)):cz F (F.add H.next b2 x2 q)∧bt P Wr (F.add H.next b2 x2 q) ((H.set i (.cells c m e false aK fz)).new (.cells c2 n2 e2 true (i::aK) fz2)) w'∧d9 Wr w w':=by
 have C:H.get i≠.none:=by rw[hi];simp
 have ay:(H.get i).kW=false:=by rw[hi];rfl
 have J:(H.get i).aK=aK:=by rw[hi];rfl
 have O:(H.get i).len=m:=by rw[hi];rfl
 have hf:=h.dV H.next (adW _);have p:cz F (F.add H.next b2 x2 q):=aL.sd b2 x2 q hf.2 (λj o y e' s=>by
  rcases d with⟨h1,_⟩|⟨h1,_⟩;·have:=h.fu j o y e';omega
  rw[h1];exact(a8 h1).symm);have bc:i≠H.next:=λe=>C (e▸hf.1);obtain⟨c',x',ob,e',hl,cx,cy⟩:=h.aF C;rw[hb]at e';injection e' with e';injection e' with e1 cE;subst e1;have a1:Wr.w b:=h.wr i b x C ay hb;have l:∀j,((H.set i (.cells c m e false aK fz)).new (.cells c2 n2 e2 true (i::aK) fz2)).get j=if j=H.next then .cells c2 n2 e2 true (i::aK) fz2 else if j=i then .cells c m e false aK fz else H.get j:=by intro j;rw[af.dt,af.fR,af.aD]
 have n:∀j,j≠H.next→(if j=i then(b9.cells c m e false aK fz)else H.get j)≠.none→H.get j≠.none:=by
  intro j _ hj;by_cases e:j=i;·subst e;exact C
  rwa[an e]at hj
 have f:∀j,(if j=i then(b9.cells c m e false aK fz)else H.get j).aK=(H.get j).aK∧(if j=i then(b9.cells c m e false aK fz)else H.get j).len=(H.get j).len:=by
  intro j;by_cases e:j=i;·subst e;rw[aH rfl,hi];exact⟨rfl,rfl⟩
  rw[an e];exact⟨rfl,rfl⟩
 have E:∀j y,j≠i→H.get j≠.none→F j=some (b,y)→j∈aK∧y+(H.get j).len≤x+m:=by
  intro j y T hj a;rcases h.kH i j b x y (λe=>T e.symm) C hj hb a with⟨hm,_⟩|⟨hm,a2⟩;·have:=(h.aK i j hm).2 C;rw[ay]at this;cases this
  rw[J]at hm;rw[O]at a2;exact⟨hm,a2⟩
 have Z:∀j o y,H.get j≠.none→F j=some (o,y)→o=b2→(j=i∨j∈aK)∧y+(H.get j).len≤x2+n2:=by
  intro j o y hj a s;rcases d with⟨h1,_⟩|⟨h1,_,h3,_⟩;·obtain⟨bd,y',_,V,bv,_⟩:=h.aF hj;rw[a]at V;injection V with V;injection V with u _;omega
  by_cases e:j=i;·subst e;rw[hb]at a;injection a with a;injection a with _ a;subst a;exact⟨.inl rfl,by rw[O];exact h3⟩
  have b0:o=b:=s.trans h1;subst b0;obtain⟨D,I⟩:=E j y e hj a;exact⟨.inr D,by omega⟩
 refine⟨p,⟨?_,?_,?_,?_,?_,?_,?_,?_,?_,?_,?_,?_⟩,⟨a',ba,bb,?_,?_⟩⟩
 ·intro j hj;rw[l]at hj⊢;by_cases X:j=H.next
  ·subst X;rw[aH rfl];refine⟨b2,x2,ob2,aL.fy ..,?_,hr⟩;rcases d with⟨h1,h2⟩|⟨h1,h2,_⟩;·rw[h2,h1];simp
   rw[h2,h1,ag8];simp[hl]
  rw[an X]at hj⊢;have r:=n j X hj;obtain⟨o,y,oc,S,c8,s,L⟩:=h.aF r;have B:OR P F (if j=i then(b9.cells c m e false aK fz)else H.get j) y oc:=by
   by_cases u:j=i;·subst u;rw[aH rfl];rw[hi]at L;cases oc<;>simp only[OR]at L⊢;exact⟨L.1,L.2.1,L.2.2.1,λh=>by cases h⟩
   rw[an u];exact L
  rcases d with⟨h1,h2⟩|⟨h1,h2,h3,cs,N,el,fr,D,I,g3,g4⟩;·exact⟨o,y,oc,(p _ _ S).1,by rw[h2,ahS,an (by omega)];exact s,OR.mono p B⟩
  by_cases e4:o=b
  ·subst e4;rw[s]at D;injection D with D;subst D;refine⟨o,y,ob2,(p _ _ S).1,by rw[h2,ag8];simp[hl],OR.mono p ?_⟩;subst I;have cv:y+(H.get j).len≤x+m:=by
    by_cases u:j=i;·subst u;rw[hb]at S;injection S with S;injection S with _ S;rw[O];omega
    exact(E j y u r S).2
   have Q:(if j=i then(b9.cells c m e false aK fz)else H.get j).kW=true:=by
    by_cases u:j=i;·rw[aH u];rfl
    rw[an u];exact(h.aK j i (by rw[J];exact(E j y u r S).1)).2 r
   have ag:=(f j).2;generalize(if j=i then(b9.cells c m e false aK fz)else H.get j)=oj at B Q ag;cases oj with
   |cells c5 n5 e5 b3 p5 f5=>
    simp only[OR]at B⊢;obtain⟨k1,k2,k3,k4⟩:=B;have c9:n5=(H.get j).len:=ag;have b4:b3=false:=by simpa[b9.kW]using Q
    refine⟨k1,by omega,λt ht=>?_,λh=>by rw[b4]at h;cases h⟩;obtain⟨v,hv,b5⟩:=k3 t ht;exact⟨v,by rw[g4 _ (by omega)];exact hv,b5⟩
   |_=>simp[b9.kW]at Q
  exact⟨o,y,oc,(p _ _ S).1,by rw[h2,ag8,an (λh=>e4 h.symm)];exact s,OR.mono p B⟩
 ·intro j k o y z a6 hj A a Y;rw[l]at hj A;rw[l,l];by_cases e1:j=H.next
  ·subst e1;have e2:k≠H.next:=λh=>a6 h.symm;rw[an e2]at A⊢;rw[aH rfl];have G:=n k e2 A;simp only[aL.add,an e2]at Y;rw[aL.fy]at a;injection a with a;injection a with b6 b';obtain⟨D,I⟩:=Z k o z G Y b6.symm;right;refine⟨?_,?_⟩
   ·rcases D with g|g;·rw[g];exact adc ..
    exact adD _ g
   rw[(f k).2,←b'];exact I
  by_cases e2:k=H.next
  ·subst e2;rw[an e1]at hj⊢;rw[aH rfl];have r:=n j e1 hj;simp only[aL.add,an e1]at a;rw[aL.fy]at Y;injection Y with Y;injection Y with ca cd;obtain⟨D,I⟩:=Z j o y r a ca.symm;left;refine⟨?_,?_⟩
   ·show j∈i::aK;rcases D with g|g;·rw[g];exact adc ..
    exact adD _ g
   rw[(f j).2,←cd];exact I
  rw[an e1]at hj⊢;rw[an e2]at A⊢;have r:=n j e1 hj;have G:=n k e2 A;simp only[aL.add,an e1,an e2]at a Y;rw[(f j).1,(f j).2,(f k).1,(f k).2];exact h.kH j k o y z a6 r G a Y
 ·intro j k A;rw[l]at A;rw[l];have ax:((H.set i (.cells c m e false aK fz)).new (.cells c2 n2 e2 true (i::aK) fz2)).next.al=H.next.al+1:=by show(H.next.succ).al=_;exact ac.gz _
  rw[ax];by_cases e2:k=H.next
  ·rw[aH e2]at A;have G:j∈i::aK:=A;rcases adC.1 G with g|g;·subst g;have:=h.CR C;refine⟨by omega,λ_=>?_⟩;rw[an bc,aH rfl];rfl
   obtain⟨D,I⟩:=h.aK j i (by rw[J];exact g);refine⟨by omega,λhj=>?_⟩;have e1:j≠H.next:=λe=>by subst e;omega
   rw[an e1]at hj⊢;by_cases u:j=i;·rw[aH u];rfl
   rw[an u]at hj⊢;exact I hj
  rw[an e2,(f k).1]at A;obtain⟨D,I⟩:=h.aK j k A;refine⟨by omega,λhj=>?_⟩;have e1:j≠H.next:=λe=>by subst e;omega
  rw[an e1]at hj⊢;by_cases u:j=i;·rw[aH u];rfl
  rw[an u]at hj⊢;exact I hj
 ·intro j o y hj M a;rw[l]at hj M;by_cases e1:j=H.next
  ·subst e1;rw[aL.fy]at a;injection a with a;injection a with a _;rcases d with⟨h1,_⟩|⟨h1,_⟩;·exact(h.new o (by omega)).1
   rw[←a,h1];exact a1
  rw[an e1]at hj M;simp only[aL.add,an e1]at a;by_cases u:j=i;·rw[aH u]at M;cases M
  rw[an u]at hj M;exact h.wr j o y hj M a
 ·intro j hj;have r:H.next.succ.al≤j.al:=hj;rw[ac.gz]at r;have e1:j≠H.next:=λe=>by subst e;omega
  have u:j≠i:=λe=>by subst e;have:=h.CR C;omega
  rw[l,an e1,an u];obtain⟨D,I⟩:=h.dV j (by omega);exact⟨D,by simp[aL.add,e1,I]⟩
 ·intro k A;refine h.new k ?_;rcases d with⟨_,h2⟩|⟨_,h2,_⟩;·rw[h2]at A;simp at A;omega
  rw[h2]at A;simpa using A
 ·intro g hg;exact(p _ _ (h.lT g hg)).1
 ·intro j o y oc hj a s;rw[l]at hj⊢;by_cases X:j=H.next
  ·subst X;rw[aL.fy]at a;injection a with a;injection a with a _;subst a;rw[aH rfl,aL.tP];have:oc=ob2:=by
    rcases d with⟨h1,h2⟩|⟨h1,h2,_⟩;·rw[h2,h1,ahS,aH rfl]at s;injection s with s;exact s.symm
    rw[h2,h1,ag8]at s;simp only[hl,bm,acm]at s;exact s.symm
   rw[this];exact hq
  rw[an X]at hj⊢;have r:=n j X hj;simp only[aL.add,an X]at a;rw[show(F.add H.next b2 x2 q).k o=F.k o from(p _ _ a).2];have bv:=h.fu j o y a;obtain⟨bd,y',ar,W,_,K,_⟩:=h.aF r;rw[a]at W;injection W with W;injection W with cf cn;subst cf;subst cn;have R:=h.jQ j o y ar r a K;have fS:gB P (F.k o) (if j=i then(b9.cells c m e false aK fz)else H.get j) ar:=by
   by_cases u:j=i;·subst u;rw[aH rfl];rw[hi]at R;cases ar<;>exact R
   rw[an u];exact R
  rcases d with⟨h1,h2⟩|⟨h1,h2,h3,cs,N,el,fr,D,I,g3,g4⟩;·rw[h2,ahS,an (by omega),K]at s;injection s with s;rw[←s];exact fS
  rw[h2,ag8]at s;by_cases e4:b=o;·subst e4;simp only[hl,bm,acm]at s;rw[K]at D;injection D with D;subst D;rw[←s,I];generalize(if j=i then(b9.cells c m e false aK fz)else H.get j)=oj at fS;cases oj<;>simp only[gB]at fS⊢;rw[g3];exact fS
  rw[an e4,K]at s;injection s with s;rw[←s];exact fS
 ·intro j o y a;by_cases e1:j=H.next
  ·subst e1;rw[aL.fy]at a;injection a with a;injection a with a _;rcases d with⟨h1,h2⟩|⟨h1,h2,_⟩;·rw[h2,Array.size_push];omega
   rw[h2,Array.size_setIfInBounds];omega
  simp only[aL.add,an e1]at a;have:=h.fu j o y a;rcases d with⟨h1,h2⟩|⟨h1,h2,_⟩;·rw[h2,Array.size_push];omega
  rw[h2,Array.size_setIfInBounds];omega
 ·intro j o y hj a;rw[l]at hj;by_cases e1:j=H.next
  ·subst e1;rw[aL.fy]at a;injection a with a;injection a with a _;rcases d with⟨h1,_⟩|⟨h1,_⟩;·exact(h.new o (by omega)).2
   rw[←a,h1];exact h.rd i b x C hb
  rw[an e1]at hj;simp only[aL.add,an e1]at a;exact h.rd j o y (n j e1 hj) a
 ·intro j hj;obtain⟨h1,h2,h3⟩:=h.un j hj;have av:j≠H.next:=λe=>by subst e;omega
  have T:j≠i:=λe=>C (by rw[←e];exact h1);refine⟨by rw[l,an av,an T];exact h1,?_,λk A=>?_⟩;·show j.al<H.next.succ.al;rw[ac.gz];omega
  rw[l]at A;by_cases e2:k=H.next
  ·rw[aH e2]at A;have G:j∈i::aK:=A;rcases adC.1 G with g|g;·exact T g
   exact h3 i (by rw[J];exact g)
  rw[an e2,(f k).1]at A;exact h3 k A
 ·intro j hj;obtain⟨h1,h2⟩:=h.eT j hj;have av:j≠H.next:=λe=>by have:=(h.un j h1).2.1;subst e;omega
  exact⟨h1,by simp[aL.add,av,h2]⟩
 ·rcases d with⟨_,h2⟩|⟨_,h2,_⟩<;>rw[h2]<;>simp
 intro k A cp;rcases d with⟨_,h2⟩|⟨_,h2,_⟩;·rw[h2,ahS,an (by omega)]
 have:k≠b:=λe=>cp (e▸a1);rw[h2,ag8,an (λh=>this h.symm)]
end
section
mutual
theorem CU(ρ:aL):∀(v:Value)(a:AV),kV v=some a→VR ρ a v
 |.bool b,a,h=>by grind[kV,acm,VR]
 |.int k n,a,h=>by grind[kV,acm,VR]
 |.string s,a,h=>by grind[kV,acm,VR]
 |.pointer none,a,h=>by grind[kV,acm,VR]
 |.slice none 0 0,a,h=>by grind[kV,acm,VR]
 |.map none,a,h=>by grind[kV,acm,VR]
 |.nilFunc,a,h=>by grind[kV,acm,VR]
 |.nilIface,a,h=>by grind[kV,acm,VR]
 |.func (.func f) x y,a,h=>by
  simp only[kV]at h
  split at h
  ·rename_i l m hl c
   injection h with h;subst h
   simp only[VR]
   exact⟨trivial,AC ρ x.toList l hl,AC ρ y.toList m c⟩
  grind
 |.agg l,a,h=>by
  simp only[kV,afi]at h
  obtain⟨m,c,h⟩:=h;subst h
  exact AC ρ l.toList m c
 |.tuple l,a,h=>by
  simp only[kV,afi]at h
  obtain⟨m,c,h⟩:=h;subst h
  exact AC ρ l.toList m c
 |.iface t v,a,h=>by
  simp only[kV,afi]at h
  obtain⟨m,c,h⟩:=h;subst h
  simp only[VR];exact⟨trivial,CU ρ v m c⟩
 |.float ..,a,h=>by trivial
 |.complex ..,a,h=>by trivial
 |.pointer (some _),a,h=>by trivial
 |.slice (some _) _ _,a,h=>by trivial
 |.slice none (_+1) _,a,h=>by trivial
 |.slice none 0 (_+1),a,h=>by trivial
 |.map (some _),a,h=>by trivial
 |.chan _,a,h=>by trivial
 |.func (.method _) _ _,a,h=>by trivial
 |.func (.methodOf ..) _ _,a,h=>by trivial
 |.func (.via ..) _ _,a,h=>by trivial
 |.func (.yield _) _ _,a,h=>by trivial
theorem AC(ρ:aL):∀(l:List Value)(m:List AV),uQ l=some m→be ρ m l
 |[],m,h=>by simp_all[uQ,acm,be]
 |v::l,m,h=>by
  simp only[uQ]at h
  split at h
  ·rename_i a b c d
   injection h with h;subst h
   exact⟨CU ρ v a c,AC ρ l b d⟩
  grind
end
section ky
variable{ρ:aL}{c:Value}
theorem VR.nO{i:ac}{o:Nat}(h:VR ρ (.aw i o) c):∃b x,ρ i=some (b,x)∧c=.pointer (some ⟨b,x+o,none⟩):=by
 cases c with
 |pointer p=>cases p with|none=>trivial|some p=>simp_all[VR]
 |_=>trivial
theorem VR.CV(h:VR ρ .ls c):c=.pointer none:=by grind[VR]
theorem VR.qQ{b:Bool}(h:VR ρ (.bool b) c):c=.bool b:=by cases c<;>simp only[VR]at h;grind
theorem VR.jz{k:Nat}{n:Int}(h:VR ρ (.int k n) c):∃a,k=kc a∧c=.int a n:=by cases c<;>simp only[VR]at h;grind
theorem VR.mM{s:List Nat}(h:VR ρ (.aC s) c):∃t:ByteArray,t.data.toList.map aib=s∧c=.string t:=by cases c<;>simp only[VR]at h;grind
theorem VR.oB{i:ac}{o len cap:Nat}{ex:Bool}(h:VR ρ (.slice i o len cap ex) c):∃ad a,c=.slice (some ad) len a∧len≤cap∧cap≤a∧(ex=true→a=cap)∧∃b x,ρ i=some (b,x)∧(a≠0→ad=⟨b,x+o,none⟩)∧(ex=false→x+o+a*(ρ.k b).2≤(ρ.k b).1):=by
 cases c with
 |slice p n a=>cases p with|none=>trivial|some p=>grind[VR]
 |_=>trivial
theorem VR.mN(h:VR ρ .aP c):c=.slice none 0 0:=by grind[VR]
theorem VR.oC{i:ac}(h:VR ρ (.map i) c):∃b,ρ i=some (b,0)∧c=.map (some b):=by
 cases c with
 |map p=>cases p with|none=>trivial|some p=>exact⟨p,h,rfl⟩
 |_=>trivial
theorem VR.tV(h:VR ρ .cL c):c=.map none:=by grind[VR]
theorem VR.sf{l:List AV}(h:VR ρ (.agg l) c):∃cs:Array Value,be ρ l cs.toList∧c=.agg cs:=by cases c<;>simp only[VR]at h;grind
theorem VR.Q'{l:List AV}(h:VR ρ (.tuple l) c):∃cs:Array Value,be ρ l cs.toList∧c=.tuple cs:=by cases c<;>simp only[VR]at h;grind
theorem VR.yN{t:Nat}{v:AV}(h:VR ρ (.iface t v) c):∃x,VR ρ v x∧c=.iface t x:=by cases c<;>simp only[VR]at h;grind
theorem VR.AD(h:VR ρ .nilIface c):c=.nilIface:=by grind[VR]
theorem VR.CW{f:Nat}{a b:List AV}(h:VR ρ (.func f a b) c):∃x y:Array Value,be ρ a x.toList∧be ρ b y.toList∧c=.func (.func f) x y:=by cases c with|func fn x y=>cases fn<;>simp only[VR]at h;exact⟨x,y,h.2.1,h.2.2,by rw[h.1]⟩|_=>simp only[VR]at h
theorem VR.CX{i:ac}(h:VR ρ (.yield i) c):∃b,ρ i=some (b,0)∧c=.func (.yield b) #[] #[]:=by cases c with|func fn x y=>cases fn<;>simp only[VR]at h;exact⟨_,h.1,by rw[h.2.1,h.2.2]⟩|_=>simp only[VR]at h
theorem VR.yO(h:VR ρ .nilFunc c):c=.nilFunc:=by grind[VR]
end ky
variable{P:Program}
theorem bW{t:TypeId}{d:TypeDesc}(h:P.underlying t=some d)(w:World):(underlying t).run P w=.ok d w:=by simp[h,underlying]
theorem Kl{t:TypeId}{s:Nat}(h:fE P t=some s):∃i,P.info? t=some i∧i.size=s:=by simp_all[fE,afi]
theorem FP{t:TypeId}{s:Nat}(h:yH P t=some s):∃i,P.info? t=some i∧i.bytes=s:=by simp_all[yH,afi]
theorem yP{t:TypeId}{i:TypeInfo}(h:P.info? t=some i)(w:World):(typeInfo t).run P w=.ok i w:=by simp[h,typeInfo]
theorem jl{t:TypeId}{s:Nat}(h:fE P t=some s)(w:World):(sizeOf t).run P w=.ok s w:=by obtain⟨i,h1,h2⟩:=Kl h;simp[h1,h2,sizeOf,yP]
theorem Ra{v:Value}{z:AV}(h:kV v=some z):z.bB=true:=by
 cases z<;>first|rfl|skip
 unfold kV at h;grind[afi]
theorem Km{v:AV}(h:dI v.cells=true):v.bB=true:=by cases v<;>first|rfl|(simp[AV.cells,dI,AV.dQ]at h)
theorem Rb{t:TypeId}{z:AV}(h:oZ P t=some z):∃i v,P.info? t=some i∧i.zero=some v∧kV v=some z:=by simp_all[oZ,acR]
theorem tW{t:TypeId}{z:AV}(h:oZ P t=some z):∃v,(∀w,(zeroValue t).run P w=.ok v w)∧(∀ρ,VR ρ z v)∧z.bB=true:=by obtain⟨i,v,h1,h2,h3⟩:=Rb h;exact⟨v,λw=>by simp[h1,h2,zeroValue,yP],λρ=>CU ρ v z h3,Ra h3⟩
theorem AF{t:TypeId}{b:Bool}(h:oz P t=some b)(w:World):(isAgg t).run P w=.ok b w:=by simp only[oz,afi]at h;obtain⟨d,h1,h2⟩:=h;simp only[isAgg,Sem.run_bind,bW h1,Result.andThen_ok];cases d<;>simp_all
theorem yQ{i:cJ}{ρ:aL}{H:af}{w:World}{e:Nat}{x:Operand}{h:aG}(b:gI P e x=some h){aa:am AV}{a:Act}(j:iU ρ e aa a.tmps)(k:bt P i ρ H w):VR ρ (gv aa h) (a.eval x):=by
 cases x with
 |tmp t=>
  simp only[gI]at b;split at b;·rename_i d;injection b with b;subst b;exact j.2 t d
  grind
 |const v=>simp only[gI,afi]at b;obtain⟨c,l,b⟩:=b;subst b;exact CU ρ v c l
 |global g=>
  simp only[gI]at b;split at b;·rename_i d;injection b with b;subst b;exact⟨g,0,k.lT g d,rfl⟩
  grind
 |func f=>grind[gI,acm,gv,Act.eval,VR,be]
theorem yR{e:cJ}{ρ:aL}{H:af}{w:World}{b:Nat}{aa:am AV}{a:Act}(c:iU ρ b aa a.tmps)(d:bt P e ρ H w):∀{l:List Operand}{ol:List aG},l.mapM (gI P b)=some ol→be ρ (ol.map (gv aa)) (l.map a.eval)|[],ol,h=>by simp_all[be]|x::l,ol,h=>by simp only[aic,adO,acR,af1,acm]at h;obtain⟨g,h1,f,h2,h3⟩:=h;subst h3;exact⟨yQ h1 c d,yR c d h2⟩
def agc(P:Program)(s:Sem Value)(w:World)(Q:Value→World→Prop):Prop:=∃v w',s.run P w=.ok v w'∧Q v w'
def cZ(P:Program)(b:cJ)(ρ:aL)(w:World)(v:AV)(H':af)(c:Value)(w':World):Prop:=
 ∃a,cz ρ a∧VR a v c∧bt P b a H' w'∧d9 b w w'
theorem cZ.bS{a:cJ}{ρ:aL}{H:af}{w:World}{v:AV}{c:Value}(b:bt P a ρ H w)(h:VR ρ v c):cZ P a ρ w v H c w:=⟨ρ,cz.refl ρ,h,b,d9.refl a w⟩
theorem yS{b:cJ}{ρ:aL}{H:af}{w:World}(d:bt P b ρ H w){l:List AV}{m:List Value}(h:be ρ l m)(e n:Nat)(o:n=l.length)(a:List Value):cz ρ (ρ.add H.next w.heap.size 0 ((m++a).length,(fE P e).getD 0))∧bt P b (ρ.add H.next w.heap.size 0 ((m++a).length,(fE P e).getD 0)) (H.new (.cells (cM l) n e true [] 0)) {w with heap:=w.heap.push (.cells (m++a).toArray e (0,0))}∧d9 b w {w with heap:=w.heap.push (.cells (m++a).toArray e (0,0))}:=by have f:cz ρ (ρ.add H.next w.heap.size 0 ((m++a).length,(fE P e).getD 0)):=aL.sd w.heap.size 0 _ (d.dV H.next (adW _)).2 (λj c y k p=>by have:=d.fu j c y k;omega);refine d.alloc _ (by rfl) (by simp) rfl ?_;have g:=be.length h;simp only[OR];refine⟨trivial,by grind,λi hi=>?_,λ_ i _ _=>by simp⟩;grind[be.get,ahd,pa,VR.mono,List.getD]
end
section
variable{P:Program}
def bx(P:Program)(d:cJ)(ρ:aL)(w:World)(s:Sem Next)(v:AV)(H':af):Prop:=
 ∃c w',(s.run P w=.ok (.value c) w'∨(s.run P w=.ok .skip w'∧c=undef))∧cZ P d ρ w v H' c w'
theorem bx.val{d:cJ}{ρ:aL}{w w':World}{s:Sem Next}{v:AV}{H':af}{c:Value}(h:s.run P w=.ok (.value c) w')(a:cZ P d ρ w v H' c w'):bx P d ρ w s v H':=⟨c,w',.inl h,a⟩
section
variable{d:cJ}{ρ:aL}{H H':af}{w:World}{nt:Nat}{aa:am AV}{a:Act}{o:Oper}{ao:bO}{v:AV}
structure dR(P:Program)(Wr:cJ)(ρ:aL)(H:af)(w:World)(nt:Nat)(aa:am AV)(a:Act):Prop where
 E:iU ρ nt aa a.tmps
 I:bt P Wr ρ H w
theorem dR.gv(h:dR P d ρ H w nt aa a){x:Operand}{b:aG}(c:gI P nt x=some b):VR ρ (gv aa b) (a.eval x):=yQ c h.E h.I
theorem Ko(h:dR P d ρ H w nt aa a){x:Operand}(b:o.op=.move x∨o.op=.assign x)(f:bN P nt o=some ao)(he:aB ao aa H=some (v,H')):bx P d ρ w (execOp a.eval o) v H':=by
 have e:∃c,gI P nt x=some c∧ao=.bg c:=by rcases b with b|b<;>simp only[bN,b,adO,acR,af1,acm]at f<;>obtain⟨c,h1,h2⟩:=f<;>exact⟨c,h1,h2.symm⟩
 obtain⟨c,h1,rfl⟩:=e;obtain⟨rfl,rfl⟩:=he;refine bx.val (c:=a.eval x) (w':=w) ?_ (cZ.bS h.I (h.gv h1));rcases b with b|b<;>simp[execOp,b]
theorem Rc(h:dR P d ρ H w nt aa a){c x y:Operand}(b:o.op=.pick c x y)(e:bN P nt o=some ao)(he:aB ao aa H=some (v,H')):bx P d ρ w (execOp a.eval o) v H':=by
 simp only[bN,b,adO,acR,af1,acm]at e;obtain⟨j,h1,k,h2,l,h3,rfl⟩:=e;simp only[aB]at he;have f:=h.gv h1;split at he
 ·rename_i t g;obtain⟨rfl,rfl⟩:=he;rw[g]at f;have i:=f.qQ;refine bx.val (c:=if t then a.eval x else a.eval y) (w':=w) (by simp[b,i,execOp,asBool]) (cZ.bS h.I ?_);cases t;·exact h.gv h3
  exact h.gv h2
 grind
theorem Re(h:dR P d ρ H w nt aa a){e:TypeId}(f:o.op=.alloc e)(g:bN P nt o=some ao)(he:aB ao aa H=some (v,H')):bx P d ρ w (execOp a.eval o) v H':=by simp only[bN,f,adO,acR,af1,acm]at g;obtain⟨z,h1,rfl⟩:=g;obtain⟨rfl,rfl⟩:=he;obtain⟨zv,i,b,c⟩:=tW h1;obtain⟨j,k,l⟩:=yS h.I (VR.cells (b ρ) c) e z.cells.length rfl [];refine bx.val (c:=.pointer (some ⟨w.heap.size,0,none⟩)) (w':={w with heap:=w.heap.push (.cells (zv.cells.toList++[]).toArray e (0,0))}) ?_ ⟨_,j,?_,k,l⟩;all_goals simp[f,i,execOp,Instr.alloc,newVar,newRow,VR,aL.fy]
theorem Rf(h:dR P d ρ H w nt aa a){e:TypeId}{x:Operand}(c:o.op=.box e x)(f:bN P nt o=some ao)(he:aB ao aa H=some (v,H')):bx P d ρ w (execOp a.eval o) v H':=by
 simp only[bN,c,adO,acR,af1,acm]at f;obtain⟨k,h1,rfl⟩:=f;simp only[aB]at he;split at he;·rename_i b;obtain⟨rfl,rfl⟩:=he;obtain⟨g,i,j⟩:=yS h.I (VR.cells (h.gv h1) (Km b)) e _ rfl [];refine bx.val (c:=.pointer (some ⟨w.heap.size,0,none⟩)) (w':={w with heap:=w.heap.push (.cells ((a.eval x).cells.toList++[]).toArray e (0,0))}) ?_ ⟨_,g,?_,i,j⟩;all_goals simp[c,execOp,Instr.box,newVar,newRow,VR,aL.fy]
 grind
theorem Kq(B:bt P d ρ H w){u:AV}{c:Value}(C:VR ρ u c){t:TypeId}{n:Nat}{g:Bool}(hg:oz P t=some g)(z:g=true→fE P t=some n)(o:g=false→n=1)(he:ja H u n g=some v):∃b,c=.pointer (some b)∧∃r,(loadVar t b).run P w=.ok r w∧VR ρ v r:=by
 unfold ja at he;split at he
 ·rename_i id off;obtain⟨b,x,hb,rfl⟩:=C.nO;refine⟨_,rfl,?_⟩;simp only[fj]at he;split at he
  ·rename_i l hl;split at hl
   ·rename_i c m e F aK fz hi;have p:H.get id≠.none:=by rw[hi];simp
    obtain⟨G,I,D,j,h,i,a⟩:=B.aF p;rw[hb]at j;injection j with j;injection j with e1 e2;subst e1;subst e2;rw[hi]at a;cases D with
    |cells cs J fr=>
     obtain⟨f,E⟩:=CT a hl;cases g with
     |true=>
      simp only[bm,acm]at he;subst he;rcases Nat.eq_zero_or_pos n with k|k
      ·subst k;refine⟨.agg #[],?_,?_⟩;·simp[loadVar,AF hg,jl (z rfl),loadCells,loadCellsFrom]
       simp only[VR];simpa using f
      refine⟨.agg ((cs.toList.drop (x+off)).take n).toArray,?_,by simp only[VR];simpa using f⟩;simp only[loadVar,Sem.run_bind,AF hg,Result.andThen_ok,bm,jl (z rfl),Az w i (x+off) n (E k),Sem.run_pure]
     |false=>
      have:=o rfl;subst this;simp only[ac6,bK]at he;obtain⟨y,A⟩:∃y,cs[x+off]?=some y:=⟨cs[x+off],by simp⟩;have s:(cs.toList.drop (x+off)).take 1=[y]:=by
       have h:x+off<cs.toList.length:=by simp;omega
       rw[agR h];simp only[ah7,ah0];have:cs.toList[x+off]=y:=by simpa[Array.getElem?_eq_getElem (show x+off<cs.size by omega)]using A
       rw[this]
      rw[s]at f;cases l with|nil=>simp[be]at f|cons q l=>simp only[List.head?_cons,acm]at he;subst he;refine⟨y,?_,f.1⟩;simp only[loadVar,Sem.run_bind,AF hg,Result.andThen_ok,ac6,bK];exact Q8 w (by rw[FM w i];exact A)
    |_=>simp[OR]at a
   cases hl
  cases he
 cases he
theorem Rg(h:dR P d ρ H w nt aa a){t:TypeId}{x:Operand}(i:o.op=.load t x)(c:bN P nt o=some ao)(he:aB ao aa H=some (v,H')):bx P d ρ w (execOp a.eval o) v H':=by
 simp only[bN,i,adO,acR,af1,acm]at c;obtain⟨g,hg,c⟩:=c;have key:∃e n,gI P nt x=some e∧(g=true→fE P t=some n)∧(g=false→n=1)∧∃q,ja H (gv aa e) n g=some q∧v=q∧H'=H:=by cases g with|true=>simp only[bm,acR,acm]at c;obtain⟨n,j,e,h1,rfl⟩:=c;simp only[aB,afi,age]at he;obtain⟨q,f,rfl,rfl⟩:=he;exact⟨e,n,h1,λ_=>j,by simp,_,f,rfl,rfl⟩|false=>simp only[ac6,bK,acR,acm]at c;obtain⟨e,h1,rfl⟩:=c;simp only[aB,afi,age]at he;obtain⟨q,f,rfl,rfl⟩:=he;exact⟨e,1,h1,by simp,λ_=>rfl,_,f,rfl,rfl⟩
 obtain⟨e,n,h1,h2,h3,q,f,rfl,rfl⟩:=key;obtain⟨b,hb,r,k,l⟩:=Kq h.I (h.gv h1) hg h2 h3 f;exact bx.val (c:=r) (w':=w) (by simp[i,hb,k,execOp,Instr.loadAt,Instr.sureAddr]) (cZ.bS h.I l)
theorem Rh{id:ac}{off:Nat}{l:List AV}(h:iI H id off l=some H'):dI l=true:=by unfold iI at h;grind
theorem Ri(h:dR P d ρ H w nt aa a){t:TypeId}{x y:Operand}(f:o.op=.store t x y)(g:bN P nt o=some ao)(he:aB ao aa H=some (v,H')):bx P d ρ w (execOp a.eval o) v H':=by
 simp only[bN,f,adO,acR,af1,acm]at g;obtain⟨n,k,s,h1,u,h2,rfl⟩:=g;simp only[aB]at he;have i:=h.gv h1;split at he
 ·rename_i id off l;rw[l]at i;split at he
  ·split at he
   ·rename_i H1 j;obtain⟨rfl,rfl⟩:=he;obtain⟨b,z,hb,m⟩:=i.nO;have c:=VR.cells (h.gv h2) (Km (Rh j));obtain⟨p,q,r⟩:=AB h.I j hb c;have e:(a.eval y).cells.size=n:=by have:=be.length c;simp at this;omega
    refine⟨undef,_,.inr ⟨?_,rfl⟩,⟨ρ,cz.refl ρ,VR.aiw ρ,q,r⟩⟩;simp[f,m,k,e,p,execOp,Instr.storeAt,Instr.sureAddr,storeVar,jl]
   grind
  grind
 grind
end
end
section
variable{P:Program}{d:cJ}{ρ:aL}{H H':af}{w:World}{nt:Nat}{aa:am AV}{a:Act}{o:Oper}{ao:bO}{v:AV}
theorem Rj(h:dR P d ρ H w nt aa a){x:Operand}(f:o.op=.nilCheck x)(g:bN P nt o=some ao)(he:aB ao aa H=some (v,H')):bx P d ρ w (execOp a.eval o) v H':=by
 simp only[bN,f,adO,acR,af1,acm]at g;obtain⟨j,h1,rfl⟩:=g;simp only[aB]at he;have e:=h.gv h1;split at he<;>(try cases he)<;>rename_i i<;>rw[i]at e;·obtain⟨b,z,hb,c⟩:=e.nO;exact bx.val (by simp[f,c,execOp]) (cZ.bS h.I (c▸e))
 ·obtain⟨k,l,_,_,c⟩:=e.CW;exact bx.val (by simp[f,c,execOp]) (cZ.bS h.I (c▸e))
 ·obtain⟨b,hb,c⟩:=e.CX;exact bx.val (by simp[f,c,execOp]) (cZ.bS h.I (c▸e))
 ·obtain⟨y,_,c⟩:=e.yN;exact bx.val (by simp[f,c,execOp]) (cZ.bS h.I (c▸e))
 ·obtain⟨b,hb,c⟩:=e.oC;exact bx.val (by simp[f,c,execOp]) (cZ.bS h.I (c▸e))
 obtain⟨ad,m,c,_⟩:=e.oB;exact bx.val (by simp[f,c,execOp]) (cZ.bS h.I (c▸e))
theorem si(k:IntKind):ck (kc k)=k:=by cases k<;>rfl
theorem wF{j k:IntKind}(h:kc j=kc k):j=k:=by have:=congrArg ck h;grind[si]
theorem fA(a b:Int):iB a b=(a==b):=by
 cases a with
 |ofNat m=>cases b with|ofNat n=>show agQ m n=_;rw[aij];simp;omega|negSucc n=>show false=_;symm;rw[beq_eq_false_iff_ne];intro e;cases e
 |negSucc m=>cases b with|ofNat n=>show false=_;symm;rw[beq_eq_false_iff_ne];intro e;cases e|negSucc n=>show agQ m n=_;rw[aij];simp
theorem mO(a b:Int):ly a b=decide (a<b):=by
 cases a with
 |ofNat m=>cases b with|ofNat n=>show aha m n=_;rw[aij];simp[aha];omega|negSucc n=>show false=_;symm;simp only[decide_eq_false_iff_not,agL];omega
 |negSucc m=>cases b with|ofNat n=>show true=_;symm;simp only[decide_eq_true_eq,agL];omega|negSucc n=>show aha n m=_;rw[aij];simp[aha];omega
theorem AG(n:Int)(h1: -9223372036854775808≤n)(h2:n<9223372036854775808):IntKind.i64.wrap n=n:=by unfold IntKind.wrap IntKind.signed IntKind.bits;grind
theorem Rl(n:Int)(h1:0≤n)(h2:n<256):IntKind.u8.wrap n=n:=by unfold IntKind.wrap IntKind.signed IntKind.bits;grind
theorem wG(k:IntKind)(n:Int):iq (kc k) n=k.wrap n:=by
 have a:mI (kc k) n=k.wrap n:=by rw[mI,si]
 unfold iq;split
 ·rename_i m c;split
  ·rename_i e;have b:k=.i64:=by cases k<;>simp[kc]at c⊢
   subst b;have:m<9223372036854775808:=ag6 (Nat.lt_succ_self m) (agT e);exact(AG _ (by simp only[agL];omega) (by simp only[agL];omega)).symm
  rw[c]at a;exact a
 ·rename_i m c;split
  ·rename_i e;have b:k=.i64:=by cases k<;>simp[kc]at c⊢
   subst b;have:m<9223372036854775808:=ag6 (Nat.lt_succ_self m) (agT e);exact(AG _ (by omega) (by omega)).symm
  rw[c]at a;exact a
 ·rename_i m c;split
  ·rename_i e;have b:k=.u8:=by cases k<;>simp[kc]at c⊢
   subst b;have:m<256:=ag6 (Nat.lt_succ_self m) (agT e);exact(Rl _ (by simp only[agL];omega) (by simp only[agL];omega)).symm
  rw[c]at a;exact a
 omega
theorem uS:∀(a b:List Nat),jO a b=(a==b)|[],[]=>rfl|[],_::_=>rfl|_::_,[]=>rfl|a::l,b::m=>by rw[jO,uS l m];rw[aij];simp
theorem Rm{op:BinOp}{k:IntKind}{x y:Int}{r:AV}(h:ir op (kc k) x y=some r)(a:op≠.shl∧op≠.shr)(t:TypeId)(w:World):∃c,(binOp op t (.int k x) (.int k y)).run P w=.ok c w∧VR ρ r c:=by
 cases op<;>simp only[ir]at h<;>(try cases h)<;>(try(exact absurd rfl a.1))<;>(try(exact absurd rfl a.2));·simp[binOp,Op.intArith,VR,wG]
 ·simp[binOp,Op.intArith,VR,wG]
 ·simp[binOp,Op.intArith,VR,wG]
 ·split at h;·grind
  rename_i b;injection h with h;subst h;simp[b,binOp,Op.intDiv,VR,wG]
 ·split at h;·grind
  rename_i b;injection h with h;subst h;simp[b,binOp,Op.intDiv,VR]
 ·simp[ahJ,binOp,Op.intBits,VR,mI,si]
 ·simp[ahJ,binOp,Op.intBits,VR,mI,si]
 ·simp[ahJ,binOp,Op.intBits,VR,mI,si]
 ·simp[ahJ,binOp,Op.intBits,VR,mI,si]
 ·simp[bool,binOp,Op.intCmp,VR,fA]
 ·simp[bool,binOp,Op.intCmp,VR,fA,bne]
 ·simp[bool,decide,binOp,Op.intCmp,VR,mO]
 ·exact⟨.bool (decide (x≤y)),by simp[binOp,Op.intCmp],by simp only[VR,mO];grind⟩
 ·simp[bool,decide,binOp,Op.intCmp,VR,mO]
 exact⟨.bool (decide (y≤x)),by simp[binOp,Op.intCmp],by simp only[VR,mO];grind⟩
theorem FQ(op:BinOp)(t:TypeId)(x y:Operand)(k a:IntKind)(m n:Int)(w:World):(eqGuard op t x y (.int k m) (.int a n)).run P w=.ok () w:=by simp[eqGuard]
theorem Rn(h:dR P d ρ H w nt aa a){op:BinOp}{t t':TypeId}{x y:Operand}{k:IntKind}(s:o.op=.binOp op t x y t')(hu:P.underlying t=some (.int k))(b:op≠.shl∧op≠.shr)(l:bN P nt o=some ao)(he:aB ao aa H=some (v,H')):bx P d ρ w (execOp a.eval o) v H':=by
 have r:∃e f,gI P nt x=some e∧gI P nt y=some f∧ao=.arith op (kc k) e f:=by simp only[bN,s,ia,hu,adO,ah5]at l;cases op<;>simp only[acR,af1,acm]at l<;>first|(exact absurd rfl b.1)|(exact absurd rfl b.2)|(obtain⟨e,h1,f,h2,h3⟩:=l;exact⟨e,f,h1,h2,h3.symm⟩)
 obtain⟨e,f,h1,h2,rfl⟩:=r;simp only[aB,afi,age]at he;obtain⟨q,g,rfl,rfl⟩:=he;have u:=h.gv h1;have z:=h.gv h2;unfold Af at g;split at g
 ·rename_i i m j n e1 e2;split at g;·rename_i p;simp only[agM]at p;have G:i=kc k:=agO p.1;have J:j=kc k:=agO p.2;rw[e1]at u;rw[e2]at z;obtain⟨A,K,B⟩:=u.jz;obtain⟨C,L,D⟩:=z.jz;have:A=k:=wF (by omega);subst this;have:C=A:=wF (by omega);subst this;obtain⟨c,E,F⟩:=Rm (P:=P) (ρ:=ρ) g b t w;exact bx.val (c:=c) (w':=w) (by simp[s,B,D,E,execOp,FQ]) (cZ.bS h.I F)
  grind
 grind
theorem Ro(h:dR P d ρ H w nt aa a){op:BinOp}{t t':TypeId}{x y:Operand}{k:IntKind}(l:o.op=.binOp op t x y t')(hu:P.underlying t=some (.int k))(g:op=.shl∨op=.shr)(s:bN P nt o=some ao)(he:aB ao aa H=some (v,H')):bx P d ρ w (execOp a.eval o) v H':=by
 have p:∃c e,gI P nt x=some c∧gI P nt y=some e∧ao=.shift op c e:=by rcases g with rfl|rfl<;>simp only[bN,l,ia,hu,adO,ah5,acR,af1,acm]at s<;>(obtain⟨c,h1,e,h2,h3⟩:=s;exact⟨c,e,h1,h2,h3.symm⟩)
 obtain⟨c,e,h1,h2,rfl⟩:=p;simp only[aB,afi,age]at he;obtain⟨q,b,rfl,rfl⟩:=he;have u:=h.gv h1;have z:=h.gv h2;unfold CC at b;split at b
 ·rename_i i m j n e1 e2;rw[e1]at u;rw[e2]at z;obtain⟨f,r,A⟩:=u.jz;obtain⟨D,C,B⟩:=z.jz;subst r;rcases g with rfl|rfl;·simp only[acm]at b;subst b;refine bx.val (c:=.int f (f.wrap (m*2^(min n f.bits)))) (w':=w) ?_ (cZ.bS h.I (by simp[VR,wG,si]));simp[execOp,l,A,B,FQ,binOp,Op.shift];omega
  simp only[acm]at b;subst b;refine bx.val (c:=.int f (m.fdiv (2^(min n f.bits)))) (w':=w) ?_ (cZ.bS h.I (by simp[VR,si]));simp[execOp,l,A,B,FQ,binOp,Op.shift];omega
 grind
end
section
variable{P:Program}{h:cJ}{ρ:aL}{H H':af}{w:World}{nt:Nat}{aa:am AV}{a:Act}{o:Oper}{ao:bO}{v:AV}
theorem Kr{x y:UInt8}(a:x.toNat=y.toNat):x=y:=UInt8.toNat_inj.1 a
theorem FS:∀{l m:List UInt8},l.map aib=m.map aib→l=m|[],[],_=>rfl|[],_::_,c=>by simp at c|_::_,[],c=>by simp at c|a::l,b::m,c=>by simp only[agN,ag4]at c;rw[Kr c.1,FS c.2]
theorem Ks(s t:ByteArray):(s.toList==t.toList)=jO (s.data.toList.map aib) (t.data.toList.map aib):=by rw[ByteArray.toList_eq,ByteArray.toList_eq,uS,aij];simp only[beq_iff_eq];grind[FS]
theorem Kt:∀(l m:List UInt8),Op.bytesLess l m=qJ (l.map aib) (m.map aib)
 |[],[]=>rfl
 |_::_,[]=>rfl
 |[],_::_=>rfl
 |a::l,b::m=>by
  simp only[Op.bytesLess,agN,qJ,Kt l m];have e1:decide (a<b)=aha a.toNat b.toNat:=by rw[aij];simp[aha,UInt8.lt_iff_toNat_lt];omega
  have e2:(a==b)=agQ a.toNat b.toNat:=by rw[aij];simp only[beq_iff_eq,Nat.beq_eq];exact⟨λc=>by rw[c],Kr⟩
  grind
theorem FT:∀(l m:List Nat),(qJ l m||jO l m)=!qJ m l
 |[],[]=>rfl
 |_::_,[]=>rfl
 |[],_::_=>rfl
 |a::l,b::m=>by
  simp only[qJ,jO];have:=FT l m;rcases Nat.lt_trichotomy a b with d|d|d
  ·have e1:aha a b=true:=by simp[aha];omega
   have e2:aha b a=false:=by rw[Bool.eq_false_iff];simp[aha];omega
   have c:agQ b a=false:=by rw[Bool.eq_false_iff];simp;omega
   grind
  ·subst d;have e1:aha a a=false:=by rw[Bool.eq_false_iff];simp[aha]
   simp_all
  have e1:aha a b=false:=by rw[Bool.eq_false_iff];simp[aha];omega
  have e2:aha b a=true:=by simp[aha];omega
  have c:agQ a b=false:=by rw[Bool.eq_false_iff];simp;omega
  grind
theorem Rp(s t:ByteArray):(s++t).data.toList=s.data.toList++t.data.toList:=by rfl
theorem Rr(op:BinOp)(t:TypeId)(x y:Operand)(m n:ByteArray)(w:World):(eqGuard op t x y (.string m) (.string n)).run P w=.ok () w:=by simp[eqGuard]
theorem Rt(E:dR P h ρ H w nt aa a){op:BinOp}{t t':TypeId}{x y:Operand}(k:o.op=.binOp op t x y t')(hu:P.underlying t=some .string)(n:bN P nt o=some ao)(he:aB ao aa H=some (v,H')):bx P h ρ w (execOp a.eval o) v H':=by
 have j:∃f g,gI P nt x=some f∧gI P nt y=some g∧ao=.il op f g:=by cases op<;>simp only[bN,k,ia,hu,adO,ah5,acR,af1,acm]at n<;>(obtain⟨f,h1,g,h2,h3⟩:=n;exact⟨f,g,h1,h2,h3.symm⟩)
 obtain⟨f,g,h1,h2,rfl⟩:=j;simp only[aB,afi,age]at he;obtain⟨q,b,rfl,rfl⟩:=he;have p:=E.gv h1;have r:=E.gv h2;unfold Ag at b;split at b
 ·rename_i l m e1 e2;rw[e1]at p;rw[e2]at r;obtain⟨s,hs,u⟩:=p.mM;obtain⟨t2,i,z⟩:=r.mM;have d:Op.bytesLess s.toList t2.toList=qJ l m:=by rw[ByteArray.toList_eq,ByteArray.toList_eq,Kt,hs,i]
  have e:(s.toList==t2.toList)=jO l m:=by rw[Ks,hs,i]
  have key:∃c,(Op.stringOp op s t2).run P w=.ok c w∧VR ρ q c:=by
   have C:s.size=l.length:=by rw[←hs,agZ,ahm];rfl
   have D:t2.size=m.length:=by rw[←i,agZ,ahm];rfl
   cases op<;>simp only at b<;>(try cases b)
   ·split at b
    ·rename_i hb;injection b with b;subst b;refine⟨.string (s++t2),?_,?_⟩
     ·simp only[Op.stringOp];rw[an];·rfl
      have:IntKind.i64.max=9223372036854775807:=by decide
      rw[this];omega
     simp only[VR];rw[Rp,ahk,hs,i]
    cases b
   ·exact⟨_,rfl,by simp only[VR];exact e.symm⟩
   ·exact⟨_,rfl,by simp only[VR];rw[e]⟩
   ·exact⟨_,rfl,by simp only[VR];exact d.symm⟩
   ·exact⟨_,rfl,by simp only[VR];rw[d,e,FT]⟩
   ·exact⟨_,rfl,by simp only[VR];rw[d,e,FT];simp⟩
   exact⟨_,rfl,by simp only[VR];rw[d]⟩
  obtain⟨c,A,B⟩:=key;exact bx.val (c:=c) (w':=w) (by simp[execOp,k,u,z,Rr,binOp,A]) (cZ.bS E.I B)
 grind
theorem Rv(m:dR P h ρ H w nt aa a){op:UnOp}{t:TypeId}{x:Operand}(g:o.op=.unOp op t x)(j:bN P nt o=some ao)(he:aB ao aa H=some (v,H')):bx P h ρ w (execOp a.eval o) v H':=by
 simp only[bN,g,adO,acR,af1,acm]at j;obtain⟨l,h1,rfl⟩:=j;simp only[aB,afi,age]at he;obtain⟨q,c,rfl,rfl⟩:=he;have e:=m.gv h1;unfold CD at c;split at c;·rename_i k n e1;rw[e1]at e;obtain⟨d,i,f⟩:=e.jz;subst i;injection c with c;subst c;exact bx.val (c:=.int d (d.wrap (0 - n))) (w':=w) (by simp[g,f,execOp,Op.unary,Op.intArith]) (cZ.bS m.I (by simp[VR,wG]))
 ·rename_i k n e1;rw[e1]at e;obtain⟨d,i,f⟩:=e.jz;subst i;simp only[ir,si,acm]at c;subst c;refine bx.val (c:=.int d (d.wrap (ahJ d.bits (if d.signed then -1 else d.max)^^^ahJ d.bits n).toNat)) (w':=w) (by simp[g,f,execOp,Op.unary,Op.intBits]) (cZ.bS m.I ?_);simp[VR,mI,si]
 ·rename_i b e1;rw[e1]at e;have f:=e.qQ;injection c with c;subst c;exact bx.val (c:=.bool (!b)) (w':=w) (by simp[g,f,execOp,Op.unary]) (cZ.bS m.I (by rfl))
 grind
theorem Rw(i:dR P h ρ H w nt aa a){t:TypeId}{x:Operand}(f:o.op=.makeInterface t x)(b:bN P nt o=some ao)(he:aB ao aa H=some (v,H')):bx P h ρ w (execOp a.eval o) v H':=by
 simp only[bN,f,adO,acR]at b;obtain⟨d,hd,b⟩:=b;have key:(∀m,d≠.interface m)∧∃c,gI P nt x=some c∧ao=.lw t c:=by cases d<;>simp only[bm,ac6,bK,acR,af1,acm]at b<;>first|(cases b;done)|(obtain⟨c,h1,h2⟩:=b;exact⟨(λm e=>by cases e),c,h1,h2.symm⟩)
 obtain⟨g,c,h1,rfl⟩:=key;obtain⟨rfl,rfl⟩:=he;refine bx.val (c:=.iface t (a.eval x)) (w':=w) ?_ (cZ.bS i.I (by simp only[VR];exact⟨trivial,i.gv h1⟩));simp only[execOp,f,Instr.makeInterface,Sem.run_bind,bW hd,Result.andThen_ok];rfl
theorem Rx(d:dR P h ρ H w nt aa a){f:FuncId}{x y:Array Operand}(b:o.op=.makeFunc (.func f) x y)(c:bN P nt o=some ao)(he:aB ao aa H=some (v,H')):bx P h ρ w (execOp a.eval o) v H':=by simp only[bN,b,uR,adO,acR,af1,acm]at c;obtain⟨l,h1,m,h2,rfl⟩:=c;obtain⟨rfl,rfl⟩:=he;refine bx.val (c:=.func (.func f) (x.map a.eval) (y.map a.eval)) (w':=w) (by simp[b,execOp,Instr.makeFunc]) (cZ.bS d.I ?_);simp only[VR,Array.toList_map];exact⟨trivial,yR d.E d.I h1,yR d.E d.I h2⟩
theorem Ry(g:dR P h ρ H w nt aa a){t:TypeId}(b:o.op=.makeMap t none)(c:bN P nt o=some ao)(he:aB ao aa H=some (v,H')):bx P h ρ w (execOp a.eval o) v H':=by simp only[bN,b,af1,acm]at c;subst c;obtain⟨rfl,rfl⟩:=he;obtain⟨d,e,f⟩:=g.I.alloc (o:=.map [] 0) (ob:=.map #[] 0) (0,0) (by trivial) (by simp) rfl (by trivial);exact bx.val (c:=.map (some w.heap.size)) (w':={w with heap:=w.heap.push (.map #[] 0)}) (by simp[b,execOp,Instr.makeMap]) ⟨_,d,by simp[VR,aL.fy],e,f⟩
theorem uT{l:List AV}{cs:Array Value}(hl:be ρ l cs.toList){t:TypeId}{g:Bool}{off s:Nat}(hg:oz P t=some g)(hs:fE P t=some s){q:AV}(a:tu g l off s=some q):∃c,(part t cs off).run P w=.ok c w∧VR ρ q c:=by unfold tu at a;cases g with|true=>simp only[bm,acm]at a;subst a;simp[hg,hs,hl,part,AF,jl,VR,Array.toList_extract,List.extract_eq_drop_take,be.take,be.drop]|false=>simp only[ac6,bK,List.head?_drop]at a;obtain⟨c,h1,h2⟩:=be.get hl off q a;simp_all[part,AF]
theorem Rz(A:dR P h ρ H w nt aa a){t:TypeId}{x:Operand}{i:Nat}(k:o.op=.field t x i)(b:bN P nt o=some ao)(he:aB ao aa H=some (v,H')):bx P h ρ w (execOp a.eval o) v H':=by
 simp only[bN,k,adO,acR]at b;obtain⟨d,hd,b⟩:=b;split at b
 ·simp only[acR,af1,acm]at b;obtain⟨f,n,g,hg,s,hs,z,h1,rfl⟩:=b;simp only[aB]at he;have m:=A.gv h1;split at he;·rename_i l p;simp only[afi,age]at he;obtain⟨q,r,rfl,rfl⟩:=he;rw[p]at m;obtain⟨cs,e,u⟩:=m.sf;obtain⟨c,y,j⟩:=uT (P:=P) (w:=w) e hg hs r;exact bx.val (c:=c) (w':=w) (by simp[execOp,k,Instr.field,bW hd,n,u,asAgg,y]) (cZ.bS A.I j)
  grind
 grind
theorem RA(p:dR P h ρ H w nt aa a){t:TypeId}{x:Operand}{i:Nat}(g:o.op=.fieldAddr t x i)(c:bN P nt o=some ao)(he:aB ao aa H=some (v,H')):bx P h ρ w (execOp a.eval o) v H':=by
 simp only[bN,g,adO,acR]at c;obtain⟨d,hd,c⟩:=c;split at c
 ·simp only[acR]at c;obtain⟨f,k,s,hs,c⟩:=c;split at c;·grind
  rename_i e;simp only[acR,af1,acm]at c;obtain⟨n,h1,rfl⟩:=c;simp only[aB]at he;have j:=p.gv h1;split at he;·rename_i id off l;obtain⟨rfl,rfl⟩:=he;rw[l]at j;obtain⟨b,z,hb,m⟩:=j.nO;refine bx.val (c:=.pointer (some ⟨b,z+off+f.offset,none⟩)) (w':=w) ?_ (cZ.bS p.I (by simp[hb,VR,ah3]));simp[execOp,g,Instr.fieldAt,bW hd,k,m,Instr.sureAddr,fieldPlace,jl hs,e,tQ]
  grind
 grind
theorem RB(r:dR P h ρ H w nt aa a){x:Operand}{i:Nat}(j:o.op=.extract x i)(e:bN P nt o=some ao)(he:aB ao aa H=some (v,H')):bx P h ρ w (execOp a.eval o) v H':=by
 simp only[bN,j,adO,acR,af1,acm]at e;obtain⟨n,h1,rfl⟩:=e;simp only[aB]at he;have f:=r.gv h1;split at he
 ·rename_i l k;simp only[afi,age]at he;obtain⟨q,g,rfl,rfl⟩:=he;rw[k]at f;obtain⟨cs,b,p⟩:=f.Q';have d:∀(l:List AV)(i:Nat),pH l i=l[i]?:=by intro l;induction l with|nil=>intro i;simp[pH]|cons y l m=>intro i;cases i with|zero=>simp[pH]|succ i=>simp[pH,m]
  rw[d]at g;obtain⟨c,e1,e2⟩:=be.get b i q g;exact bx.val (c:=c) (w':=w) (by simp_all[execOp,Instr.extract]) (cZ.bS r.I e2)
 grind
end
section
variable{P:Program}{f:cJ}{ρ:aL}{H H':af}{w:World}{nt:Nat}{aa:am AV}{a:Act}{o:Oper}{ao:bO}{v:AV}
theorem RC(h:dR P f ρ H w nt aa a){t:TypeId}{x i:Operand}(q:o.op=.indexAddr t x i)(c:bN P nt o=some ao)(he:aB ao aa H=some (v,H')):bx P f ρ w (execOp a.eval o) v H':=by
 simp only[bN,q,adO,acR]at c;obtain⟨d,hd,c⟩:=c;split at c
 ·rename_i n e;simp only[acR,af1,acm]at c;obtain⟨s,hs,y,h1,A,h2,rfl⟩:=c;simp only[aB]at he;have l:=h.gv h1;have m:=h.gv h2;split at he
  ·rename_i id off k j r hj;split at he
   ·rename_i g;obtain⟨rfl,rfl⟩:=he;rw[r]at l;rw[hj]at m;obtain⟨b,z,hb,u⟩:=l.nO;obtain⟨B,_,hi⟩:=m.jz;have p:j<n:=by simpa[aha,Nat.succ_le_iff]using g
    refine bx.val (c:=.pointer (some ⟨b,z+off+j*s,none⟩)) (w':=w) ?_ (cZ.bS h.I (by simp[hb,VR,ah3]));simp[execOp,q,Instr.indexAt,hi,asIntOf,bW hd,u,Instr.sureAddr,jl hs,tQ];omega
   grind
  grind
 ·simp only[acR,af1,acm]at c;obtain⟨s,hs,y,h1,A,h2,rfl⟩:=c;simp only[aB]at he;have l:=h.gv h1;have m:=h.gv h2;split at he
  ·rename_i id off len cap ex k j r hj;split at he
   ·rename_i g;obtain⟨rfl,rfl⟩:=he;rw[r]at l;rw[hj]at m;obtain⟨ad,D,u,E,F,G,b,z,hb,C,J⟩:=l.oB;obtain⟨B,_,hi⟩:=m.jz;have p:j<len:=by simpa[aha,Nat.succ_le_iff]using g
    have:=C (by omega);subst this;refine bx.val (c:=.pointer (some ⟨b,z+off+j*s,none⟩)) (w':=w) ?_ (cZ.bS h.I (by simp[hb,VR,ah3]));simp[execOp,q,Instr.indexAt,hi,asIntOf,bW hd,u,jl hs,tQ];omega
   grind
  grind
 grind
theorem Ku:∀(l:List Nat)(i:Nat),Ai l i=l[i]?|[],i=>by rfl|a::l,0=>by rfl|a::l,i+1=>by simp[Ai,Ku l i]
theorem RD(h:dR P f ρ H w nt aa a){t:TypeId}{x i:Operand}(z:o.op=.index t x i)(b:bN P nt o=some ao)(he:aB ao aa H=some (v,H')):bx P f ρ w (execOp a.eval o) v H':=by
 simp only[bN,z,adO,acR]at b;obtain⟨d,hd,b⟩:=b;split at b
 ·rename_i n e;simp only[acR,af1,acm]at b;obtain⟨g,hg,s,hs,J,h1,K,h2,rfl⟩:=b;simp only[aB]at he;have m:=h.gv h1;have p:=h.gv h2;split at he
  ·rename_i l k j A hj;split at he
   ·rename_i C;simp only[afi,age]at he;obtain⟨q,L,rfl,rfl⟩:=he;rw[A]at m;rw[hj]at p;obtain⟨cs,D,B⟩:=m.sf;obtain⟨M,_,hi⟩:=p.jz;have r:j<n:=by simpa[aha,Nat.succ_le_iff]using C
    obtain⟨c,N,E⟩:=uT (P:=P) (w:=w) D hg hs L;refine bx.val (c:=c) (w':=w) ?_ (cZ.bS h.I E);simp[execOp,z,Instr.index,hi,asIntOf,bW hd,B,jl hs,r,N]
   grind
  grind
 ·simp only[acR,af1,acm]at b;obtain⟨J,h1,K,h2,rfl⟩:=b;simp only[aB]at he;have m:=h.gv h1;have p:=h.gv h2;split at he
  ·rename_i s k j A hj;simp only[afi,age]at he;obtain⟨q,⟨n,y,rfl⟩,rfl,rfl⟩:=he;rw[A]at m;rw[hj]at p;obtain⟨t',O,B⟩:=m.mM;obtain⟨M,_,hi⟩:=p.jz;rw[Ku,←O,ahc,afi]at y;obtain⟨u,hu,y⟩:=y;have F:t'[j]?=some u:=by
    have:j<t'.size:=by have:=ahv.1 hu;obtain⟨G,_⟩:=this;simpa using G
    rw[getElem?_pos t' j this];have e:=ahv.1 hu;obtain⟨G,Q⟩:=e;rw[←Q];rfl
   refine bx.val (c:=.int .u8 u.toNat) (w':=w) ?_ (cZ.bS h.I (by simp[y,VR,kc]));simp[execOp,z,Instr.index,hi,asIntOf,bW hd,B,F]
  grind
 grind
theorem CY{x:AV}{c:Value}(e:VR ρ x c){y b n:Nat}(h:nJ x y=some n)(g:y≤b)(code:Go.BoundsCode)(w:World):(Instr.sliceBound c b code).run P w=.ok n w∧n≤y:=by
 unfold nJ at h;split at h
 ·rename_i k i;split at h;·rename_i a;injection h with h;subst h;obtain⟨j,_,rfl⟩:=e.jz;have d:i≤y:=agT a;simp[Instr.sliceBound,asIntOf];omega
  grind
 grind
theorem RE{a:Type}(c:Prop) [Decidable c](x y:a):(if c then some x else some y)=some (if c then x else y):=by grind
theorem CZ(h:dR P f ρ H w nt aa a){lo hi mx:Option Operand}{k n omx:Option aG}(h1:mK P nt lo=some k)(h2:mK P nt hi=some n)(h3:mK P nt mx=some omx){len cap cap' m c l:Nat}(e1:ji aa omx cap cap=some m)(e2:ji aa n len m=some c)(s:ji aa k 0 c=some l)(o:cap≤cap')(r:mx.isSome=true→hi.isSome=true)(B:mx=none→hi=none→len≤cap)(b:Bool):(Instr.sliceBounds b len cap' (lo.map a.eval) (hi.map a.eval) (mx.map a.eval)).run P w=.ok (l,c,if mx.isSome then m else cap') w∧l≤c∧(c≤m)∧m≤cap∧(mx=none→m=cap):=by
 have A:∀{x:Option Operand}{t:Option aG},mK P nt x=some t→(x=none∧t=none)∨∃y d,x=some y∧t=some d∧VR ρ (gv aa d) (a.eval y):=by intro x t u;cases x with|none=>simp only[mK,acm]at u;exact .inl ⟨rfl,u.symm⟩|some y=>simp only[mK,afi]at u;obtain⟨d,F,rfl⟩:=u;exact .inr ⟨y,d,rfl,rfl,h.gv F⟩
 have G:∃i,(match mx.map a.eval with|some v=>Instr.sliceBound v cap' (if b then .slice3Acap else .slice3Alen)|none=>pure cap':Sem Nat).run P w=.ok i w∧(i=if mx.isSome then m else cap')∧m≤cap∧m≤i∧(mx=none→m=cap):=by
  rcases A h3 with⟨rfl,rfl⟩|⟨y,d,rfl,rfl,j⟩;·simp only[ji,acm]at e1;subst e1;exact⟨cap',by simp,by simp,adW _,o,λ_=>rfl⟩
  simp only[ji]at e1;obtain⟨e,g⟩:=CY (P:=P) j e1 o (if b then .slice3Acap else .slice3Alen) w;exact⟨m,by simpa using e,by simp,g,adW _,by simp⟩
 obtain⟨i,J,K,C,p,q⟩:=G;have D:∃code,c≤m∧((match hi.map a.eval,mx.map a.eval with|some v,some _=>Instr.sliceBound v i .slice3B|some v,none=>Instr.sliceBound v i code|none,none=>pure len|none,some _=>stuck "Slice: max without high" :Sem Nat).run P w=.ok c w)∧code=(if b then .sliceAcap else .sliceAlen):=by
  refine⟨if b then .sliceAcap else .sliceAlen,?_⟩;rcases A h2 with⟨rfl,rfl⟩|⟨y,d,rfl,rfl,j⟩;·simp only[ji,acm]at e2;subst e2;cases mx with|none=>refine⟨?_,by simp,rfl⟩;rw[q rfl];exact B rfl rfl|some y=>simp at r
  simp only[ji]at e2;cases mx with|none=>obtain⟨e,g⟩:=CY (P:=P) j e2 p (if b then .sliceAcap else .sliceAlen) w;exact⟨g,by simpa using e,rfl⟩|some z=>obtain⟨e,g⟩:=CY (P:=P) j e2 p .slice3B w;exact⟨g,by simpa using e,rfl⟩
 obtain⟨code,I,L,rfl⟩:=D;have E:l≤c∧(match lo.map a.eval with|some v=>Instr.sliceBound v c (if mx.isSome then .slice3C else .sliceB)|none=>pure 0:Sem Nat).run P w=.ok l w:=by
  rcases A h1 with⟨rfl,rfl⟩|⟨y,d,rfl,rfl,j⟩;·simp only[ji,acm]at s;subst s;exact⟨by omega,by simp⟩
  simp only[ji]at s;obtain⟨e,g⟩:=CY (P:=P) j s (adW _) (if mx.isSome then .slice3C else .sliceB) w;exact⟨g,by simpa using e⟩
 refine⟨?_,E.1,I,C,q⟩;cases mx<;>cases hi<;>cases lo<;>simp_all[Instr.sliceBounds]
theorem RF(i:bt P f ρ H w){id:ac}{b z e s:Nat}(hb:ρ id=some (b,z))(h:rX H id e=true)(hs:fE P e=some s):(ρ.k b).2=s:=by
 unfold rX at h;split at h
 ·rename_i c n m l aK fz hi;have he:=agO h;subst he;have a:H.get id≠.none:=by rw[hi];simp
  obtain⟨o,p,j,e1,_,g,d⟩:=i.aF a;rw[hb]at e1;injection e1 with e1;injection e1 with e1 e2;subst e1;subst e2;have:=i.jQ id b z j a hb g;rw[hi]at this d;cases j<;>simp only[OR]at d;simp only[gB]at this;rw[this];simp[hs]
 grind
theorem RG(h:dR P f ρ H w nt aa a){t:TypeId}{x:Operand}{lo hi mx:Option Operand}(J:o.op=.slice t x lo hi mx)(c:bN P nt o=some ao)(he:aB ao aa H=some (v,H')):bx P f ρ w (execOp a.eval o) v H':=by
 simp only[bN,J,adO,acR]at c;obtain⟨d,hd,c⟩:=c;split at c
 ·rename_i n e;split at c;·cases c
  rename_i T;simp only[acR,af1,acm]at c;obtain⟨s,hs,ox,h1,D,h2,L,h3,omx,A,rfl⟩:=c;simp only[aB]at he;have i:=h.gv h1;split at he
  ·rename_i id off B;simp only[adO,acR,acm,age]at he;obtain⟨m,e1,j,e2,l,k,rfl,rfl⟩:=he;rw[B]at i;obtain⟨b,z,hb,C⟩:=i.nO;obtain⟨p,Q,R,S,K⟩:=CZ h h2 h3 A e1 e2 k (adW n) (λh=>by cases hi<;>simp_all) (λ_ _=>adW _) false;have V:(if mx.isSome then m else n)=m:=by cases mx with|none=>simp[K rfl]|some y=>simp
   rw[V]at p;refine bx.val (c:=.slice (some (if m=l then⟨b,z+off,none⟩else(⟨b,z+off,none⟩:Addr).add (l*s))) (j - l) (m - l)) (w':=w) ?_ (cZ.bS h.I ?_);·simp only[execOp,J,Instr.sliceAt,Sem.run_bind,bW hd,Result.andThen_ok,C,Instr.sureAddr,Sem.run_pure,p,jl hs]
   simp only[VR];refine⟨trivial,by omega,adW _,λ_=>trivial,b,z,hb,λr=>?_,λh=>by cases h⟩;rw[an (by omega),an (by omega),tQ,ah3]
  cases he
 ·rename_i e;split at c;·cases c
  rename_i T;simp only[acR]at c;obtain⟨s,hs,c⟩:=c;split at c;·cases c
  simp only[acR,af1,acm]at c;obtain⟨ox,h1,D,h2,L,h3,omx,A,rfl⟩:=c;simp only[aB]at he;have i:=h.gv h1;have E:mx.isSome=true→hi.isSome=true:=λh=>by cases hi<;>simp_all
  split at he
  ·rename_i B;simp only[adO,acR,acm,age]at he;obtain⟨m,e1,j,e2,l,k,rfl,rfl⟩:=he;rw[B]at i;have C:=i.mN;obtain⟨p,Q,R,S,K⟩:=CZ h h2 h3 A e1 e2 k (adW 0) E (λ_ _=>adW _) true;have W:m=0:=by omega
   have X:j=0:=by omega
   have Y:l=0:=by omega
   subst W;subst X;subst Y;refine bx.val (c:=.slice none 0 0) (w':=w) ?_ (cZ.bS h.I (by simp[VR]));simp only[execOp,J,Instr.sliceAt,Sem.run_bind,bW hd,Result.andThen_ok,C,Instr.slice,p,jl hs];cases mx<;>simp
  ·rename_i id off len cap ex B;simp only[adO,acR,acm,age]at he;obtain⟨m,e1,j,e2,l,k,he⟩:=he;split at he;case isFalse=>cases he
   rename_i F;simp only[acm,age]at he;obtain⟨rfl,rfl⟩:=he;rw[B]at i;obtain⟨ad,O,C,q1,q2,q3,b,z,hb,q4,q5⟩:=i.oB;obtain⟨p,Q,R,S,K⟩:=CZ h h2 h3 A e1 e2 k q2 E (λ_ _=>q1) true;refine bx.val (c:=.slice (some (if(if mx.isSome then m else O)=l then ad else ad.add (l*s))) (j - l) ((if mx.isSome then m else O) - l)) (w':=w) ?_ (cZ.bS h.I ?_);·simp only[execOp,J,Instr.sliceAt,Sem.run_bind,bW hd,Result.andThen_ok,C,Instr.slice,p,jl hs];simp only[ahb];rw[RE];simp
   simp only[VR];cases mx with
   |none=>
    have:=K rfl;subst this;simp only[mK,acm]at A;subst A;refine⟨trivial,by omega,by simp;omega,λg=>?_,b,z,hb,λr=>?_,λg=>?_⟩;rotate_left 2
    ·simp only[Option.isSome_none,Bool.or_false,ac6,bK]at g F⊢;subst g;have h6:=q5 rfl;simp only[Bool.false_or,ahT,Nat.beq_eq_true_eq,Bool.false_and,ac6,bK]at F⊢;rcases F with h0|h0
     ·have h0:l=0:=by cases M:D with|none=>rw[M]at k;simpa[ji]using k.symm|some q=>rw[M]at h0;simp at h0
      subst h0;simpa using h6
     have Z:=RF h.I hb h0 hs;rw[Z]at h6⊢;have:l*s+(O - l)*s=O*s:=by rw[←aig];congr 1;omega
     omega
    ·simp at g⊢;rw[q3 g]
    simp only[Option.isSome_none,ac6,bK]at r⊢;have G:=q4 (by omega);subst G;rw[an (by omega),an (by intro u;simp only[agM,decide_eq_true_eq]at u;have:=q3 u.1;omega),tQ,ah3]
   |some y=>simp only[mK,afi]at A;obtain⟨oy,_,rfl⟩:=A;refine⟨trivial,by omega,by simp,λ_=>by simp,b,z,hb,λr=>?_,λh=>by simp at h⟩;simp only[Option.isSome_some,bm]at r⊢;have G:=q4 (by omega);subst G;rw[an (by omega),an (by intro u;simp only[agM,decide_eq_true_eq]at u;omega),tQ,ah3]
  cases he
 ·split at c;·cases c
  rename_i E;simp only[acR,af1,acm]at c;obtain⟨ox,h1,D,h2,L,h3,rfl⟩:=c;have N:mx=none:=by cases mx<;>simp_all
  subst N;simp only[aB]at he;have i:=h.gv h1;split at he
  ·rename_i s B;simp only[adO,acR,acm,age]at he;obtain⟨j,e2,l,k,rfl,rfl⟩:=he;rw[B]at i;obtain⟨t',ht,C⟩:=i.mM;have ag:t'.size=s.length:=by rw[←ht,agZ,ahm];rfl
   obtain⟨p,Q,R,S,K⟩:=CZ (mx:=none) (omx:=none) h h2 h3 rfl (m:=s.length) (cap:=s.length) (cap':=s.length) rfl e2 k (adW _) (by simp) (λ_ _=>adW _) false;refine bx.val (c:=.string (t'.extract l j)) (w':=w) ?_ (cZ.bS h.I ?_);·simp only[execOp,J,Instr.sliceAt,Sem.run_bind,bW hd,Result.andThen_ok,C,Instr.slice,Option.map_none,Option.isSome_none,ac6,bK];simp only[Option.map_none]at p;rw[ag];simp[p]
   simp only[VR];rw[show(t'.extract l j).data.toList=(t'.data.toList.drop l).take (j - l)by rw[ByteArray.data_extract,Array.toList_extract,List.extract_eq_drop_take]];rw[List.map_take,List.map_drop,ht]
  cases he
 grind
end
section
variable{P:Program}{f:cJ}{ρ:aL}{H H':af}{w:World}{nt:Nat}{aa:am AV}{a:Act}{o:Oper}{ao:bO}{v:AV}
theorem uU{c:Call}{b:Builtin}(e:o.op=.call c)(hb:c.callee=.builtin b)(w:World):∃d,(execOp a.eval o).run P w=(builtin b c.argTypes o.type d (c.args.map a.eval)).run P w:=by exact⟨_,by simp only[execOp,e,resolve,hb,Sem.run_bind,Sem.run_pure,Result.andThen_ok,invoke];rfl⟩
theorem Kv{c:Call}{i:Nat}{x:aG}(h:(c.args[i]?).bind (gI P nt)=some x):∃y,c.args[i]?=some y∧gI P nt y=some x∧(c.args.map a.eval)[i]?=some (a.eval y):=by grind
theorem VR.goInt(ρ:aL)(n:Nat):VR ρ (.int 3 (.ofNat n)) (goInt n):=by trivial
theorem ch.length:∀{l:List aR}{m:List MapEntry},ch ρ l m→l.length=m.length|[],[],_=>rfl|_::_,_::_,h=>by simp[ch.length h.2.2.2]|[],_::_,h=>by trivial|_::_,[],h=>by trivial
theorem qR(d:bt P f ρ H w){id:ac}{es:List aR}{a:Nat}(g:H.get id=.map es a){b:Nat}(hb:ρ id=some (b,0)):∃br:Array MapEntry,w.heap[b]?=some (.map br a)∧ch ρ es br.toList:=by obtain⟨j,x,h,e,hl,i,c⟩:=d.aF (i:=id) (by grind);rw[hb]at e;injection e with e;injection e with e1 e2;subst e1;rw[g]at c;cases h<;>simp only[OR]at c;grind
theorem wH(c:bt P f ρ H w){id:ac}{es:List aR}{a:Nat}(h:H.get id=.map es a){b:Nat}(hb:ρ id=some (b,0)){br:Array MapEntry}{k:Nat}(i:w.heap[b]?=some (.map br k)):jR br k:=by obtain⟨j,x,l,e,hl,d,g⟩:=c.aF (i:=id) (by grind);grind[OR]
theorem dG.length:∀{l:List aR}{m:List MapEntry},dG ρ l m→l.length=m.length|[],[],_=>rfl|_::_,_::_,h=>by simp[dG.length h.2.2]|[],_::_,h=>by trivial|_::_,[],h=>by trivial
theorem RH(d:bt P f ρ H w){id:ac}{es:List aR}(g:H.get id=.dB es){b:Nat}(hb:ρ id=some (b,0)):∃(br:Array MapEntry)(a:Nat)(l:List MapEntry),w.heap[b]?=some (.map br a)∧l.Perm br.toList∧dG ρ es l:=by obtain⟨j,x,h,e,hl,i,c⟩:=d.aF (i:=id) (by grind);rw[hb]at e;injection e with e;injection e with e1 e2;subst e1;rw[g]at c;cases h<;>simp only[OR]at c;grind
theorem nP{b:Nat}{br:Array MapEntry}{a:Nat}(h:w.heap[b]?=some (.map br a)):(getObj b).run P w=.ok (.map br a) w:=by simp[h,getObj,Sem.run]
theorem RI(h:dR P f ρ H w nt aa a){c:Call}(F:o.op=.call c)(hb:c.callee=.builtin .len)(g:bN P nt o=some ao)(he:aB ao aa H=some (v,H')):bx P f ρ w (execOp a.eval o) v H':=by
 simp only[bN,F,hb,adO,acR]at g;obtain⟨t,m,d,hd,g⟩:=g;obtain⟨s,i⟩:=uU (P:=P) (a:=a) F hb w;split at g;·rename_i n e;rw[acR]at g;obtain⟨x,j,g⟩:=g;injection g with g;subst g;obtain⟨y,_,_,k⟩:=Kv (a:=a) j;obtain⟨rfl,rfl⟩:=he;refine bx.val (c:=goInt n) (w':=w) ?_ (cZ.bS h.I (VR.goInt ρ n));rw[i];simp[builtin,Builtin.len_,m,k,bW hd]
 ·rw[acR]at g;obtain⟨L,B,g⟩:=g;split at g;·rename_i n e2;rw[acR]at g;obtain⟨x,j,g⟩:=g;injection g with g;subst g;obtain⟨y,_,_,k⟩:=Kv (a:=a) j;obtain⟨rfl,rfl⟩:=he;refine bx.val (c:=goInt n) (w':=w) ?_ (cZ.bS h.I (VR.goInt ρ n));rw[i];simp[builtin,Builtin.len_,m,k,bW hd,bW B]
  cases g
 all_goals(try(cases g;done))
 all_goals
  simp only[acR,af1,acm]at g;obtain⟨x,⟨G,C,D⟩,rfl⟩:=g;have k:(c.args.map a.eval)[0]?=some (a.eval G):=by simp[C]
  have p:=h.gv D;simp only[aB]at he;split at he<;>(try(cases he;done))<;>rename_i J<;>rw[J]at p
 ·obtain⟨rfl,rfl⟩:=he;obtain⟨t',E,j⟩:=p.mM;refine bx.val (c:=goInt t'.size) (w':=w) ?_ (cZ.bS h.I ?_);·rw[i];simp[builtin,Builtin.len_,m,k,bW hd,j]
  rw[←E,agZ,ahm];exact VR.goInt ρ t'.size
 ·simp only[acm,age]at he;obtain⟨rfl,rfl⟩:=he;obtain⟨ad,M,j,_⟩:=p.oB;refine bx.val (c:=goInt _) (w':=w) ?_ (cZ.bS h.I (VR.goInt ρ _));rw[i];simp[builtin,Builtin.len_,m,k,bW hd,j]
 ·simp only[acm,age]at he;obtain⟨rfl,rfl⟩:=he;have j:=p.mN;refine bx.val (c:=goInt 0) (w':=w) ?_ (cZ.bS h.I (VR.goInt ρ 0));rw[i];simp[builtin,Builtin.len_,m,k,bW hd,j]
 ·simp only[acm,age]at he;obtain⟨rfl,rfl⟩:=he;have j:=p.tV;refine bx.val (c:=goInt 0) (w':=w) ?_ (cZ.bS h.I (VR.goInt ρ 0));rw[i];simp[builtin,Builtin.len_,m,k,bW hd,j]
 split at he
 ·rename_i es r u;simp only[acm,age]at he;obtain⟨rfl,rfl⟩:=he;obtain⟨b,q,j⟩:=p.oC;obtain⟨br,z,A⟩:=qR h.I u q;refine bx.val (c:=goInt br.size) (w':=w) ?_ (cZ.bS h.I ?_);·rw[i];simp[builtin,Builtin.len_,m,k,bW hd,j,nP z]
  rw[ch.length A,ahm];exact VR.goInt ρ br.size
 ·rename_i es u;simp only[acm,age]at he;obtain⟨rfl,rfl⟩:=he;obtain⟨b,q,j⟩:=p.oC;obtain⟨br,r,l,z,A,K⟩:=RH h.I u q;refine bx.val (c:=goInt br.size) (w':=w) ?_ (cZ.bS h.I ?_);·rw[i];simp[builtin,Builtin.len_,m,k,bW hd,j,nP z]
  rw[dG.length K,A.length_eq,ahm];exact VR.goInt ρ br.size
 cases he
theorem RK(h:dR P f ρ H w nt aa a){c:Call}(m:o.op=.call c)(hb:c.callee=.builtin .cap)(b:bN P nt o=some ao)(he:aB ao aa H=some (v,H')):bx P f ρ w (execOp a.eval o) v H':=by
 simp only[bN,m,hb,adO,acR]at b;obtain⟨t,n,d,hd,b⟩:=b;obtain⟨g,e⟩:=uU (P:=P) (a:=a) m hb w;split at b
 ·simp only[acR,af1,acm]at b;obtain⟨x,⟨q,k,l⟩,rfl⟩:=b;have p:(c.args.map a.eval)[0]?=some (a.eval q):=by simp[k]
  have i:=h.gv l;simp only[aB]at he;split at he<;>(try(cases he;done))<;>rename_i r<;>rw[r]at i;·simp only[acm,age]at he;obtain⟨rfl,rfl⟩:=he;obtain⟨ad,u,j,_,_,s,_⟩:=i.oB;have:=s rfl;subst this;refine bx.val (c:=goInt _) (w':=w) ?_ (cZ.bS h.I (VR.goInt ρ _));rw[e];simp[builtin,Builtin.cap_,n,p,bW hd,j]
  simp only[acm,age]at he;obtain⟨rfl,rfl⟩:=he;have j:=i.mN;refine bx.val (c:=goInt 0) (w':=w) ?_ (cZ.bS h.I (VR.goInt ρ 0));rw[e];simp[builtin,Builtin.cap_,n,p,bW hd,j]
 grind
theorem Kw(a:Bool):∀(l:List AV)(m:List Value)(x:AV)(c:Value)(r:AV),VR ρ x c→be ρ l m→yw a x l=some r→∃q,(m.foldlM (if a then Builtin.max2 else Builtin.min2) c).run P w=.ok q w∧VR ρ r q
 |[],[],x,c,r,t,_,h=>by simp_all[yw,acm]
 |y::l,d::m,x,c,r,t,hl,h=>by
  unfold yw at h;split at h;·grind
  ·rename_i k n j b u o;split at h
   ·rename_i v;injection o with e1 e2;subst e1;subst e2;obtain⟨e,g,rfl⟩:=t.jz;obtain⟨z,A,rfl⟩:=hl.1.jz;have p:e=z:=wF (by have:=agO v;omega);subst p;have i:∃q,((if a then Builtin.max2 else Builtin.min2) (.int e n) (.int e b)).run P w=.ok q w∧VR ρ (.int k (if a then(if ly n b then b else n)else(if ly b n then b else n))) q:=by
     cases a;·refine⟨.int e (if b<n then b else n),by simp[Builtin.min2],?_⟩;simp[VR,g,mO]
     refine⟨.int e (if b>n then b else n),by simp[Builtin.max2],?_⟩;simp[VR,g,mO]
    obtain⟨q,B,s⟩:=i;obtain⟨C,h1,h2⟩:=Kw a _ _ _ _ _ s hl.2 h;simp_all
   grind
  grind
 |[],_::_,_,_,_,_,hl,_=>by trivial
 |_::_,[],_,_,_,_,hl,_=>by trivial
theorem Kx(h:dR P f ρ H w nt aa a){c:Call}{isMax:Bool}(n:o.op=.call c)(hb:c.callee=.builtin (if isMax then .max else .min))(p:bN P nt o=some ao)(he:aB ao aa H=some (v,H')):bx P f ρ w (execOp a.eval o) v H':=by
 have i:∃l,c.args.toList.mapM (gI P nt)=some l∧ao=.pF isMax l:=by cases isMax<;>simp only[bm,bK,ac6]at hb<;>simp only[bN,n,hb,uR,adO,acR,af1,acm]at p<;>(obtain⟨l,h1,h2⟩:=p;exact⟨l,h1,h2.symm⟩)
 obtain⟨l,h1,rfl⟩:=i;obtain⟨e,j⟩:=uU (P:=P) (a:=a) n hb w;have g:=yR h.E h.I h1;simp only[aB]at he;split at he
 ·rename_i x b hl;simp only[afi,age]at he;obtain⟨q,r,rfl,rfl⟩:=he;rw[hl]at g;have k:(c.args.map a.eval).toList=c.args.toList.map a.eval:=by simp
  cases s:c.args.toList.map a.eval with|nil=>simp_all|cons d m=>rw[s]at g;obtain⟨t,y,u⟩:=Kw (P:=P) (w:=w) isMax b m x d q g.1 g.2 r;refine bx.val (c:=t) (w':=w) ?_ (cZ.bS h.I u);rw[j];cases isMax;all_goals simp_all[ac6,bK,builtin,Builtin.min_,bm,Builtin.max_]
 grind
end
section
variable{P:Program}{b:cJ}{ρ:aL}{H H':af}{w:World}{nt:Nat}{aa:am AV}{a:Act}{o:Oper}{ao:bO}{v:AV}
theorem AH(a:List AV):∀n,(fx a n).length=n*a.length|0=>by simp[fx]|n+1=>by simp[fx,AH a n,Nat.succ_mul];omega
theorem Ky(a:List AV):∀(n i:Nat),i<n*a.length→(fx a n)[i]?=a[i % a.length]?
 |0,i,h=>by omega
 |n+1,i,h=>by
  simp only[fx];by_cases hi:i<a.length;·simp[hi,ahd,Nat.mod_eq_of_lt]
  rw[List.getElem?_append_right (by omega),Ky a n _ (by grind)];simp_all[Nat.mod_eq_sub_mod]
theorem C1{a:List AV}{cs:Array Value}(h:be ρ a cs.toList)(n:Nat)(hs:a.length≠0):be ρ (fx a n) ((ait (n*cs.size)).map (cs[·% cs.size]!)).toList:=by
 have hl:=be.length h;simp only[ahm]at hl;refine be.FK (by simp[hl,AH]) ?_;intro i v c e f;have hi:i<n*a.length:=by
  rcases ahz i (n*a.length)with h|h;·exact h
  rw[List.getElem?_eq_none (by rw[AH];exact h)]at e;cases e
 rw[Ky a n i hi]at e;obtain⟨d,hd,g⟩:=be.get h _ v e;grind
theorem Kz:∀(l:List Value)(cs:Array Value)(off j:Nat),(l.zipIdx j).foldl (λcs(p:Value×Nat)=>cs.setIfInBounds (off+p.2) p.1) cs=wr cs (off+j) l|[],cs,off,j=>rfl|v::l,cs,off,j=>by simp only[List.zipIdx_cons,List.foldl_cons,wr];rw[Kz l _ off (j+1)];rfl
theorem FU:∀(off:Nat)(l a e:List AV)(cs d:List Value),tw l off a=some e→be ρ l cs→be ρ a d→off+d.length≤cs.length∧be ρ e (cs.take off++d++cs.drop (off+d.length))
 |0,l,[],e,cs,[],h,hl,_=>by simp_all[tw,acm]
 |0,x::l,v::a,e,c::cs,m::d,h,hl,g=>by
  simp only[tw]at h;split at h;·rename_i i f;injection h with h;subst h;obtain⟨j,k⟩:=FU 0 l a i cs d f hl.2 g.2;simp_all[ah0,ahH,ahC,be,agW,ahh,List.drop_succ_cons]
  grind
 |off+1,x::l,a,e,c::cs,d,h,hl,g=>by
  simp only[tw]at h;split at h;·rename_i i f;injection h with h;subst h;obtain⟨j,k⟩:=FU off l a i cs d f hl.2 g;grind[be]
  grind
 |off+1,[],a,e,_,_,h,_,_=>by trivial
 |0,[],v::a,e,_,_,h,_,_=>by trivial
 |0,_,[],_,_,_::_,_,_,g=>by trivial
 |0,_,_::_,_,_,[],_,_,g=>by trivial
 |0,_::_,_,_,[],_,_,hl,_=>by trivial
 |_+1,_::_,_,_,[],_,_,hl,_=>by trivial
theorem RL(l:List Value)(cs:Array Value)(off:Nat)(h:off+l.length≤cs.size):(wr cs off l).toList=cs.toList.take off++l++cs.toList.drop (off+l.length):=by apply List.ext_getElem?;intro j;rw[ahP,AA l cs off j h];by_cases h1:j<off;all_goals grind
theorem C2(h:dR P b ρ H w nt aa a)(c:Nat→Option (Nat×Nat)):∀(eW:List (Nat×Operand))(l:List (Nat×Nat×aG))(g r:List AV)(cs:Array Value),eW.mapM (λp=>(c p.1).bind λq=>(gI P nt p.2).map λx=>(q.1,q.2,x))=some l→be ρ g cs.toList→nI aa g l=some r→∃d,Instr.fill c cs (eW.map λp=>(p.1,a.eval p.2))=some d∧be ρ r d.toList∧d.size=cs.size
 |[],l,g,r,cs,i,k,hl=>by simp at i;subst i;simp only[nI,acm]at hl;subst hl;exact⟨cs,rfl,k,rfl⟩
 |p::eW,l,g,r,cs,i,k,hl=>by
  simp only[aic,adO,acR,af1,acm,afi]at i;obtain⟨t,⟨q,y,x,z,rfl⟩,A,m,rfl⟩:=i;simp only[nI]at hl;split at hl
  ·rename_i e;simp only[agM,decide_eq_true_eq]at e;obtain⟨n,e⟩:=e;split at hl
   ·rename_i s o;have j:=VR.cells (h.gv z) n;have f:=be.length j;simp only[ahm]at f;obtain⟨u,v⟩:=FU q.1 g (gv aa x).cells s cs.toList (a.eval p.2).cells.toList o k j;simp only[ahm]at u;have B:=RL (a.eval p.2).cells.toList cs q.1 (by simpa using u);rw[←B]at v;obtain⟨d,C,D,E⟩:=C2 h c eW A s r _ m v hl;refine⟨d,?_,D,by rw[E,tT]⟩;simp only[agN,Instr.fill,y];rw[an];·rw[←Array.foldl_toList,Array.toList_zipIdx];have:=Kz (a.eval p.2).cells.toList cs q.1 0;simp only[ail]at this;rw[this];exact C
    simp;omega
   cases hl
  cases hl
theorem RM(h:dR P b ρ H w nt aa a){t:TypeId}{eW:Array (Nat×Operand)}(y:o.op=.build t eW)(g:bN P nt o=some ao)(he:aB ao aa H=some (v,H')):bx P b ρ w (execOp a.eval o) v H':=by
 simp only[bN,y,adO,acR]at g;obtain⟨z,D,d,hd,g⟩:=g;obtain⟨zv,m,n,u⟩:=tW D;split at g
 ·rename_i fs;simp only[acR,af1,acm]at g;obtain⟨c,B,l,hl,rfl⟩:=g;simp only[aB,afi,age]at he;obtain⟨q,⟨r,A,rfl⟩,rfl,rfl⟩:=he;obtain⟨j,E,F,_⟩:=C2 h (λi=>c[i]?) eW.toList l z.cells r zv.cells hl (VR.cells (n ρ) u) A;have e:(fs.mapM λ(f:Field)=>(do pure (f.offset,←sizeOf f.type):Sem (Nat×Nat))).run P w=.ok c.toArray w:=by
   rw[Array.mapM_eq_mapM_toList];have:∀(k:List Field)(pl:List (Nat×Nat)),k.mapM (λ(f:Field)=>(fE P f.type).map λs=>(f.offset,s))=some pl→(k.mapM λ(f:Field)=>(Prod.mk f.offset<$>sizeOf f.type:Sem (Nat×Nat))).run P w=.ok pl w:=by intro k;induction k with|nil=>intro pl h;simp at h;subst h;simp|cons f k G=>intro pl h;simp only[aic,adO,acR,af1,acm,afi]at h;obtain⟨_,⟨s,hs,rfl⟩,C,h2,rfl⟩:=h;simp[aic,jl hs,G C h2]
   simp[this fs.toList c B]
  refine bx.val (c:=.agg j) (w':=w) ?_ (cZ.bS h.I (by trivial));simp only[execOp,y,Instr.build,Sem.run_bind,m,Result.andThen_ok,bW hd,e];simp_all
 ·simp only[acR,af1,acm]at g;obtain⟨s,hs,l,hl,rfl⟩:=g;simp only[aB,afi,age]at he;obtain⟨q,⟨r,A,rfl⟩,rfl,rfl⟩:=he;obtain⟨j,E,F,_⟩:=C2 h (λi=>some (i*s,s)) eW.toList l z.cells r zv.cells (by grind) (VR.cells (n ρ) u) A;refine bx.val (c:=.agg j) (w':=w) ?_ (cZ.bS h.I (by trivial));have:(eW.map λx=>match x with|(i,x)=>(i,a.eval x)).toList=eW.toList.map λp=>(p.1,a.eval p.2):=by simp
  simp only[execOp,y,Instr.build,Sem.run_bind,m,Result.andThen_ok,bW hd,jl hs];simp_all
 grind
end
section
variable{P:Program}{f:cJ}{ρ:aL}{H H':af}{w:World}{nt:Nat}{aa:am AV}{a:Act}{o:Oper}{ao:bO}{v:AV}
theorem RN(h:dR P f ρ H w nt aa a){t:TypeId}{len:Nat}{eW:Array (Nat×Operand)}(E:o.op=.buildSlice t len eW)(b:bN P nt o=some ao)(he:aB ao aa H=some (v,H')):bx P f ρ w (execOp a.eval o) v H':=by
 simp only[bN,E,adO,acR]at b;obtain⟨d,hd,b⟩:=b;split at b
 ·rename_i e;simp only[acR]at b;obtain⟨s,hs,z,F,b⟩:=b;split at b;·cases b
  rename_i C;simp only[acR,af1,acm]at b;obtain⟨l,hl,rfl⟩:=b;simp only[aB]at he;split at he
  ·rename_i r G;split at he
   ·rename_i h1;simp only[acm,age]at he;obtain⟨rfl,rfl⟩:=he;obtain⟨zv,j,q,u⟩:=tW F;have k:=VR.cells (q ρ) u;have y:=be.length k;simp only[ahm]at y;have c:zv.cells.size=s:=by omega
    have m:=C1 (ρ:=ρ) k len (by omega);obtain⟨A,n,J,N⟩:=C2 h (λi=>some (i*s,s)) eW.toList l (fx z.cells len) r ((ait (len*zv.cells.size)).map (zv.cells[·% zv.cells.size]!)) (by simpa using hl) m G;obtain⟨K,L,M⟩:=yS h.I J e r.length rfl [];refine bx.val (c:=.slice (some ⟨w.heap.size,0,none⟩) len len) (w':={w with heap:=w.heap.push (.cells (A.toList++[]).toArray e (0,0))}) ?_ ⟨_,K,?_,L,M⟩
    ·have:(eW.map λx=>match x with|(i,x)=>(i,a.eval x)).toList=eW.toList.map λp=>(p.1,a.eval p.2):=by simp
     simp only[execOp,E,Instr.buildSlice,Sem.run_bind,bW hd,Result.andThen_ok,jl hs,Sem.run_ite];rw[an (by omega)];have D:(if len*s=0 then(Sem.run P (pure #[]) w:Result (Array Value))else Sem.run P (do pure (←zeroValue e).cells) w)=.ok (if len*s=0 then #[]else zv.cells) w:=by split<;>simp[j]
     by_cases g:len*s=0
     ·rw[aH g];simp only[Sem.run_pure,Result.andThen_ok];have B:((ait (len*s)).map λx=>(#[]:Array Value)[x %(#[]:Array Value).size]!)=((ait (len*zv.cells.size)).map (zv.cells[·% zv.cells.size]!)):=by rw[c,g];simp
      rw[B,this,n];simp[newRow]
     rw[an g];simp only[Sem.run_bind,j,Sem.run_pure,Result.andThen_ok];rw[this];rw[c]at n;rw[c,n];simp[newRow]
    simp only[VR];exact⟨trivial,adW _,adW _,λ_=>trivial,_,_,aL.fy ..,λ_=>by simp,λh=>by cases h⟩
   cases he
  cases he
 grind
theorem RP(X:Array Value):(X.toList++[]).toArray=X:=by simp
theorem uV{n:Nat}(h:fc n=true):n≤70368744177664:=agT h
theorem RQ(h:dR P f ρ H w nt aa a){t:TypeId}{x y:Operand}(O:o.op=.makeSlice t x y)(b:bN P nt o=some ao)(he:aB ao aa H=some (v,H')):bx P f ρ w (execOp a.eval o) v H':=by
 simp only[bN,O,adO,acR]at b;obtain⟨d,hd,b⟩:=b;split at b
 ·rename_i e;simp only[acR]at b;obtain⟨s,hs,z,W,b⟩:=b;split at b;·grind
  simp only[acR,af1,acm]at b;obtain⟨u,A,ox,h1,oy,h2,rfl⟩:=b;simp only[aB]at he;have Q:=h.gv h1;have R:=h.gv h2;split at he
  ·rename_i l c hl B;split at he
   ·rename_i gJ;simp only[agM]at gJ;obtain⟨⟨C,D⟩,E⟩:=gJ;have m:l≤c:=agT C;have T:=uV D;have V:=uV E;obtain⟨rfl,rfl⟩:=he;rw[hl]at Q;rw[B]at R;obtain⟨k1,ag,X⟩:=Q.jz;obtain⟨k2,ar,Y⟩:=R.jz;obtain⟨zv,F,G,J⟩:=tW W;have j:=VR.cells (G ρ) J;have k:=be.length j;simp only[ahm]at k;have g:zv.cells.size=s:=by omega
    have n:=C1 (ρ:=ρ) j c (by omega);obtain⟨Z,q2,q3⟩:=yS h.I n e (c*s) (by simp[k,g,AH]) [];obtain⟨ti,K,L⟩:=FP A;refine bx.val (c:=.slice (some ⟨w.heap.size,0,none⟩) l c) (w':={w with heap:=w.heap.push (.cells (((ait (c*zv.cells.size)).map (zv.cells[·% zv.cells.size]!)).toList++[]).toArray e (0,0))}) ?_ ⟨_,Z,?_,q2,q3⟩
    ·have M:IntKind.i64.wrap (ahI l)=l:=AG _ (by simp only[agL];omega) (by simp only[agL];omega);have N:IntKind.i64.wrap (ahI c)=c:=AG _ (by simp only[agL];omega) (by simp only[agL];omega);have p:¬((ti.bytes:Int)*(c:Int)>2^48):=by
      have e1:(2:Int)^48=281474976710656:=by decide
      rw[e1,L];have:((u*c:Nat):Int)≤281474976710656:=by rw[Nat.mul_comm];omega
      push_cast at this;omega
     have q:¬((c:Int)<0):=by omega
     have i:¬((l:Int)<0):=by omega
     have r:¬((l:Int)>(c:Int)):=by omega
     simp only[execOp,O,Instr.makeSlice,Sem.run_bind,bW hd,Result.andThen_ok,X,Y,asInt,asIntOf,Sem.run_pure,yP K,M,N];simp only[p,q,i,r,decide_false,Bool.or_false,ac6,bK];rw[RP];by_cases S:c*s=0;·simp only[run_askRoom,Result.andThen_ok,jl hs,agK,S,g,newRow,bm,Sem.run_bind,Sem.run_pure,run_newObj];grind
     simp only[run_askRoom,Result.andThen_ok,jl hs,agK,S,g,newRow,bK,Sem.run_bind,Sem.run_pure,run_newObj,F]
    simp only[VR];exact⟨trivial,m,adW _,λ_=>trivial,_,_,aL.fy ..,λ_=>by rfl,λh=>by grind⟩
   grind
  grind
 grind
theorem RR(h:dR P f ρ H w nt aa a){t d:TypeId}{x:Operand}(R:o.op=.convert t d x)(p:bN P nt o=some ao)(he:aB ao aa H=some (v,H')):bx P f ρ w (execOp a.eval o) v H':=by
 simp only[bN,R,adO,acR]at p;obtain⟨ts,A,td,B,p⟩:=p;split at p
 ·rename_i k0 k;simp only[acR,af1,acm]at p;obtain⟨W,h1,rfl⟩:=p;have u:=h.gv h1;simp only[aB]at he;split at he;·rename_i j n F;obtain⟨rfl,rfl⟩:=he;rw[F]at u;obtain⟨k',_,E⟩:=u.jz;exact bx.val (c:=.int k (k.wrap n)) (w':=w) (by simp[execOp,R,convert,bW A,bW B,E,Conv.intToInt]) (cZ.bS h.I (by simp[VR,wG]))
  cases he
 ·simp only[acR,af1,acm]at p;obtain⟨W,h1,rfl⟩:=p;have u:=h.gv h1;simp only[aB]at he;split at he;·rename_i s F;obtain⟨rfl,rfl⟩:=he;rw[F]at u;obtain⟨t',L,E⟩:=u.mM;exact bx.val (c:=.string t') (w':=w) (by simp[execOp,R,convert,bW A,bW B,E]) (cZ.bS h.I (by rw[E]at u;exact u))
  cases he
 ·rename_i e;simp only[acR]at p;obtain⟨te,G,p⟩:=p;split at p
  ·simp only[bm]at p;split at p;case isFalse=>cases p
   rename_i T;simp only[acR,af1,acm]at p;obtain⟨W,h1,rfl⟩:=p;have u:=h.gv h1;simp only[aB]at he;split at he
   ·rename_i s F;obtain⟨rfl,rfl⟩:=he;rw[F]at u;obtain⟨t',L,E⟩:=u.mM;have ag:t'.size=s.length:=by rw[←L,agZ,ahm];rfl
    have a':=grownCap_ge w t'.size 0 e;have C:=Lib.run_convert_string_bytes (P:=P) w t d e t' A B G;have V:(Lib.bytesCells w e t').size=grownCap w t'.size 0 e:=by simp only[Lib.bytesCells,Array.size_append,Array.size_map,Array.size_replicate];have:t'.data.size=t'.size:=rfl;omega
    have D:(Lib.bytesWorld w e t').heap=w.heap.push (.cells (Lib.bytesCells w e t') e ((Lib.bytesCells w e t').size,(Lib.bytesCells w e t').size+1)):=by
     apply Array.ext_getElem?;intro j;rw[ahS];by_cases hj:j=w.heap.size;·rw[aH hj,hj,Lib.bytesWorld_at_new]
     rw[an hj];rcases ahz j w.heap.size with y|a6;·exact Lib.bytesWorld_at_old w e t' j y
     rw[ahE (by rw[Lib.bytesWorld_size];omega),ahE (by omega)]
    obtain⟨X,Y,q3⟩:=h.I.alloc (q:=((Lib.bytesCells w e t').size,(fE P e).getD 0)) (hq:=rfl) (o:=.cells (cM (s.map λn=>.int 4 (.ofNat n))) s.length e true [] 0) (ob:=.cells (Lib.bytesCells w e t') e ((Lib.bytesCells w e t').size,(Lib.bytesCells w e t').size+1)) (by simp) rfl (by
     simp only[OR];refine⟨trivial,by omega,λi hi=>?_,λ_ i _ hi=>by omega⟩;have M:i<t'.data.size:=by have:t'.data.size=t'.size:=rfl;omega
     refine⟨.int .u8 (t'.data[i]).toNat,?_,?_⟩;·simp only[Lib.bytesCells,agW];rw[Array.getElem?_append_left (by simpa using M)];simp only[Array.getElem?_map,getElem?_pos t'.data i M,ahb]
     rw[pa _ _ (by simpa using hi)];have ar:s[i]?=some (t'.data[i]).toNat:=by rw[←L,ahc,ahP,getElem?_pos t'.data i M];rfl
     simp only[List.getD,ahc,ar,ahb,ahs,VR];exact⟨rfl,rfl⟩);refine bx.val (c:=.slice (some ⟨w.heap.size,0,none⟩) t'.size (grownCap w t'.size 0 e)) (w':=Lib.bytesWorld w e t') (by simp only[execOp,R,E,Sem.run_bind,C,Result.andThen_ok,Sem.run_pure]) ⟨_,X,?_,Y.yM D,q3.yM D rfl rfl rfl⟩;refine⟨ag,adW _,by omega,(λp=>by cases p),_,_,aL.fy ..,(λ_=>by simp),λ_=>?_⟩;rw[aL.tP];simp only[T,ahs];omega
   cases he
  simp at p
 ·simp only[acR]at p;obtain⟨te,G,p⟩:=p;split at p
  ·simp only[bm,acR,af1,acm]at p;obtain⟨W,h1,rfl⟩:=p;have u:=h.gv h1;simp only[aB]at he;split at he;·rename_i F;obtain⟨rfl,rfl⟩:=he;rw[F]at u;have E:=u.mN;exact bx.val (c:=.string .empty) (w':=w) (by simp[execOp,R,convert,bW A,bW B,bW G,E,Conv.bytesToString]) (cZ.bS h.I (by simp[VR]))
   ·rename_i id off len cap ex F;split at he
    ·rename_i l hl;simp only[afi,age]at he;obtain⟨bs,co,rfl,rfl⟩:=he;rw[F]at u;obtain⟨ad,cp,E,p1,p2,p3,b,z,hb,p4,p5⟩:=u.oB;have K:∀(l:List AV)(m:List Value)(r:List Nat),Ah l=some r→be ρ l m→m=(r.map ahI).map (Value.int .u8)∧∀n∈r,n<256:=by
      intro l;induction l with
      |nil=>intro m r h1 h2;cases m with|nil=>simp only[Ah,acm]at h1;subst h1;simp|cons _ _=>simp[be]at h2
      |cons v l S=>
       intro m r h1 h2;cases m with
       |nil=>simp[be]at h2
       |cons c m=>
        simp only[be]at h2;simp only[Ah]at h1;split at h1
        ·rename_i n r' e1 e2;injection h1 with h1;subst h1;obtain⟨g,g'⟩:=S m r' e2 h2.2;unfold JU at e1;split at e1
         ·rename_i n';split at e1
          ·rename_i y;injection e1 with e1;subst e1;obtain⟨k',hk,av⟩:=h2.1.jz;have:k'=.u8:=wF (by rw[←hk];rfl);subst this;have a8:n'<256:=ag6 (Nat.lt_succ_self n') (agT y);refine⟨by simp[g,av],λq hq=>?_⟩;rcases adC.1 hq with e|e;·omega
           exact g' q e
          cases e1
         cases e1
        cases h1
     have O:∃m:List Value,(loadCells ad len).run P w=.ok m.toArray w∧be ρ l m:=by
      rcases Nat.eq_zero_or_pos len with Z|Z
      ·subst Z;refine⟨[],by simp[loadCells,loadCellsFrom],?_⟩;unfold fj at hl;split at hl;·simp only[ip,acm]at hl;subst hl;simp[be]
       cases hl
      have:=p4 (by omega);subst this;unfold fj at hl;split at hl;·rename_i c m' e' ba aK fz hi;obtain⟨b',x',ob,J,y,ax,N⟩:=h.I.aF (i:=id) (by rw[hi];simp);rw[hb]at J;injection J with J;injection J with e1 e2;subst e1;subst e2;rw[hi]at N;cases ob with|cells cs el fr=>obtain⟨X,Y⟩:=CT N hl;exact⟨_,Az w ax (z+off) len (Y Z),X⟩|_=>simp[OR]at N
      cases hl
     obtain⟨m,hm,ay⟩:=O;obtain⟨a1,y⟩:=K l m bs co ay;subst a1;have C:=run_bytesToString (P:=P) w ad len cp (bs.map ahI) hm;have Q:∀(r:List Nat)(s:ByteArray),((r.map ahI).foldl (λr n=>r.push (UInt8.ofNat n.toNat)) s).data.toList=s.data.toList++r.map UInt8.ofNat:=by intro r;induction r with|nil=>intro s;simp|cons n r S=>intro s;simp only[agN,List.foldl_cons];rw[S];simp[ByteArray.push]
     refine bx.val (c:=.string _) (w':=w) (by simp[execOp,R,convert,bW A,bW B,bW G,E,C];rfl) (cZ.bS h.I ?_);simp only[VR];rw[Q];simp only[ahk,aii];have:bs.map (aib∘UInt8.ofNat)=bs:=by
      have a2:∀(r:List Nat),(∀n∈r,n<256)→r.map (aib∘UInt8.ofNat)=r:=by intro r;induction r with|nil=>intro _;rfl|cons n r S=>intro hr;rw[agN,S (λq hq=>hr q (adD _ hq))];have:=hr n (adc ..);simp only[Function.comp,UInt8.toNat_ofNat',ag4,and_true];omega
      exact a2 bs y
     rw[this];rfl
    cases he
   cases he
  simp at p
 cases p
theorem RS(h:dR P f ρ H w nt aa a){x:Operand}{r t:TypeId}{ok:Bool}(s:o.op=.typeAssert x r t ok)(k:bN P nt o=some ao)(he:aB ao aa H=some (v,H')):bx P f ρ w (execOp a.eval o) v H':=by
 simp only[bN,s,adO,acR]at k;obtain⟨d,hd,k⟩:=k;have key:(∀m,d≠.interface m)∧∃z l,oZ P t=some z∧gI P nt x=some l∧ao=.typeAssert t z ok l:=by cases d<;>simp only[bm,ac6,bK,acR,af1,acm]at k<;>first|(cases k;done)|(obtain⟨z,h0,l,h1,h2⟩:=k;exact⟨(λm e=>by cases e),z,l,h0,h1,h2.symm⟩)
 obtain⟨i,z,l,F,h1,rfl⟩:=key;obtain⟨zv,n,p,G⟩:=tW F;have A:=h.gv h1;simp only[aB]at he;have q:(Instr.typeAssert .nilIface r t true).run P w=.ok (.tuple #[zv,.bool false]) w:=by simp only[Instr.typeAssert,Sem.run_bind,bW hd,Result.andThen_ok];cases d<;>first|(exact absurd rfl (i _))|simp[n]
 have j:∀(c:Value)(b:Bool),(Instr.typeAssert (.iface t c) r t b).run P w=.ok (if b then .tuple #[c,.bool true]else c) w:=by intro c b;simp only[Instr.typeAssert,Sem.run_bind,bW hd,Result.andThen_ok];cases d<;>first|(exact absurd rfl (i _))|simp
 have g:∀(u:TypeId)(c:Value),u≠t→(Instr.typeAssert (.iface u c) r t true).run P w=.ok (.tuple #[zv,.bool false]) w:=by intro u c hu;simp only[Instr.typeAssert,Sem.run_bind,bW hd,Result.andThen_ok];cases d<;>first|(exact absurd rfl (i _))|simp[hu,n]
 split at he
 ·rename_i C;rw[C]at A;have B:=A.AD;split at he;·rename_i gJ;subst gJ;obtain⟨rfl,rfl⟩:=he;exact bx.val (c:=.tuple #[zv,.bool false]) (w':=w) (by simp[s,B,q,execOp]) (cZ.bS h.I (by simp[p,VR,be]))
  grind
 ·rename_i u J C;rw[C]at A;obtain⟨y,K,B⟩:=A.yN;split at he;·rename_i hu;have D:u=t:=agO hu;subst D;obtain⟨rfl,rfl⟩:=he;refine bx.val (c:=if ok then .tuple #[y,.bool true]else y) (w':=w) (by simp[s,B,j,execOp]) (cZ.bS h.I ?_);grind[VR,be]
  rename_i hu;split at he;·rename_i gJ;subst gJ;obtain⟨rfl,rfl⟩:=he;have E:u≠t:=λe=>hu (by subst e;simp);exact bx.val (c:=.tuple #[zv,.bool false]) (w':=w) (by simp[s,B,g,E,execOp]) (cZ.bS h.I (by simp[p,VR,be]))
  grind
 grind
end
section
variable{P:Program}{b:cJ}{ρ:aL}{H H':af}{w:World}{nt:Nat}{aa:am AV}{a:Act}{o:Oper}{ao:bO}{v:AV}
structure uW(P:Program)(w:World)(argTypes:Array TypeId)(e:TypeId)(size:Nat)(x:Value)(n:Nat)(m:List Value):Prop where
 run:∀(ty:TypeId)(s:Value)(cW:Option Addr)(sLen sCap:Nat),s=.slice cW sLen sCap→∀sT,argTypes[0]?=some sT→P.underlying sT=some (.slice e)→fE P e=some size→
  (sLen+n≤sCap→∀w',(match cW with|some a=>storeCells (a.add (sLen*size)) m|none=>pure ():Sem Unit).run P w=.ok () w'→
   (Builtin.append_ argTypes ty #[s,x]).run P w=.ok (.slice cW (sLen+n) sCap) w')∧
  (¬sLen+n≤sCap→∀i,P.info? e=some i→(sLen+n)*i.bytes≤70368744177664→sLen+n≤70368744177664→∀z,(∀w,(zeroValue e).run P w=.ok z w)→∀dJ:Array Value,(Builtin.firstCells size sLen s).run P w.drew=.ok dJ w.drew→
   (Builtin.append_ argTypes ty #[s,x]).run P w=.ok (.slice (some ⟨w.heap.size,0,none⟩) (sLen+n) (grownCap w (sLen+n) sCap e))
     (w.drew.alloc (.cells (dJ++m.toArray++Builtin.zeroCells z.cells (grownCap w (sLen+n) sCap e - (sLen+n))) e)))
theorem KA(n:Nat):∀(r c:Nat),256≤c→c<2*n→Builtin.growBy n r c≤2*n
 |0,c,_,h=>by grind[Builtin.growBy]
 |r+1,c,h1,h2=>by
  simp only[Builtin.growBy];split;·omega
  rcases ahz (c+(c+768)/4) (2*n)with h|h;·exact KA n r _ (by omega) h
  omega
theorem RT{a dJ:Nat}(h:dJ<a):Builtin.nextslicecap a dJ≤2*a:=by grind[Builtin.nextslicecap,KA]
theorem C3{a dJ c:Nat}(h:dJ<a)(hb:a*c≤70368744177664):¬(Builtin.nextslicecap a dJ*c>2^48):=by have h1:=ahf c (RT h);grind
theorem uW.RU{argTypes:Array TypeId}{e v:TypeId}{size n:Nat}{x:Value}{m:List Value}{g:TypeDesc}(q:argTypes[1]?=some v)(d:P.underlying v=some g)(h:∀k,g≠.int k)(c:∀w':World,(Builtin.lenOf x).run P w'=.ok n w')(h1:(Builtin.firstCells size n x).run P w=.ok m.toArray w)(h2:(Builtin.firstCells size n x).run P w.drew=.ok m.toArray w.drew):uW P w argTypes e size x n m:=by
 refine⟨λB s cW j y hs C r hu f=>⟨λa w' dW=>?_,λa i hi t A z p dJ fS=>?_⟩⟩
 ·subst hs;have p:(match g with|.int _=>true|_=>false)=false:=by cases g<;>first|rfl|(exact absurd rfl (h _))
  cases cW with|none=>simp only[Sem.run_pure,Result.ok.injEq,true_and]at dW;subst dW;simp[Builtin.append_,r,q,bW hu,jl f,bW d,p,c,a,h1]|some ad=>simp only at dW;simp[Builtin.append_,r,q,bW hu,jl f,bW d,p,c,a,h1,dW]
 subst hs;have u:(match g with|.int _=>true|_=>false)=false:=by cases g<;>first|rfl|(exact absurd rfl (h _))
 have l:=C3 (Nat.lt_of_not_le a) t;have o:¬(((j+n:Nat):Int)>IntKind.i64.max):=by
  have:IntKind.i64.max=9223372036854775807:=by decide
  rw[this];omega
 simp only[Builtin.append_,r,q,bW hu,jl f,bW d,u,c,a,Sem.run_bind,Result.andThen_ok,Sem.run_pure,ac6,bK,List.getElem?_toArray,List.getElem?_cons_zero,ahK,yP hi,o,false_and,l,run_choose,Question.forced,run_askRoom];rw[show({heap:=w.heap,tape:=w.tape,drawn:=w.drawn+1,os:=w.os,output:=w.output}:World)=w.drew from rfl,fS];simp only[Result.andThen_ok,Bool.not_false,bm,h2,p,newRow,Sem.run_bind,run_newObj,Sem.run_pure];rfl
theorem uW.RV{argTypes:Array TypeId}{e A:TypeId}{size n g:Nat}{k F:IntKind}{z:Value}(B:argTypes[1]?=some A)(h:P.underlying A=some (.int k))(r:yH P e=some g)(J:n*g≤70368744177664)(H:n≤70368744177664)(G:∀w,(zeroValue e).run P w=.ok z w)(t:z.cells.size=size):uW P w argTypes e size (.int F (n:Int)) n ((ait (n*z.cells.size)).map (z.cells[·% z.cells.size]!)).toList:=by
 obtain⟨C,c,u⟩:=FP r;have j:IntKind.i64.wrap (n:Int)=n:=AG _ (by omega) (by omega);have l:¬((n:Int)*(C.bytes:Int)>2^48):=by
  have e1:(2:Int)^48=281474976710656:=by decide
  rw[e1,u];have:((n*g:Nat):Int)≤281474976710656:=by omega
  push_cast at this;omega
 have d:¬((n:Int)<0):=by omega
 have f:∀w',(if n*size=0 then pure #[]else do pure (Builtin.zeroCells (←zeroValue e).cells n):Sem (Array Value)).run P w'=.ok ((ait (n*z.cells.size)).map (z.cells[·% z.cells.size]!)) w':=by
  intro w';by_cases h0:n*size=0;·rw[aH h0,t,h0];simp
  rw[an h0];simp[G,Builtin.zeroCells]
 refine⟨λK s cW o E hs L D hu m=>⟨λa w' dW=>?_,λa i hi v I M x dJ fS=>?_⟩⟩;·subst hs;simp only[Builtin.append_,D,B,bW hu,jl m,bW h,a,Sem.run_bind,Result.andThen_ok,Sem.run_pure,bm,List.getElem?_toArray,List.getElem?_cons_zero,ahK,asInt,asIntOf,j,d,bK,yP c,l,agK,ag9,ac6,f];cases cW with|none=>simp_all|some ad=>simp_all
 subst hs;have p:=C3 (Nat.lt_of_not_le a) v;have q:¬(((o+n:Nat):Int)>IntKind.i64.max):=by
  have:IntKind.i64.max=9223372036854775807:=by decide
  rw[this];omega
 have y:i=C:=by rw[hi]at c;injection c
 subst y;simp only[Builtin.append_,D,B,bW hu,jl m,bW h,a,Sem.run_bind,Result.andThen_ok,Sem.run_pure,bm,List.getElem?_toArray,List.getElem?_cons_zero,ahK,asInt,asIntOf,j,d,bK,yP c,l,agK,ag9,ac6,q,false_and,p,run_choose,Question.forced,run_askRoom];rw[show({heap:=w.heap,tape:=w.tape,drawn:=w.drawn+1,os:=w.os,output:=w.output}:World)=w.drew from rfl,fS];simp only[Result.andThen_ok,f,x,newRow,Sem.run_bind,run_newObj,Sem.run_pure];rfl
end
section
variable{P:Program}{d:cJ}{ρ:aL}{H H':af}{w:World}{nt:Nat}{aa:am AV}{a:Act}{o:Oper}{ao:bO}{v:AV}
theorem FW(a:Array Value)(n:Nat):(Builtin.zeroCells a n).size=n*a.size:=by simp[Builtin.zeroCells]
theorem KB(k:bt P d ρ H w){id:ac}{off len h m:Nat}{ad:Addr}{b x:Nat}(hb:ρ id=some (b,x))(g:h≠0→ad=⟨b,x+off,none⟩)(j:len≤h){size:Nat}(u:m=len*size){l:List AV}(hl:fj H id off m=some l):∃i:List Value,be ρ l i∧l.length=m∧∀w':World,w'.heap=w.heap→(loadCells ad m).run P w'=.ok i.toArray w':=by
 unfold fj at hl;split at hl
 ·rename_i c n e p aK fz hi;obtain⟨q,_,_⟩:=CS m c n off l hl;rcases Nat.eq_zero_or_pos m with h0|h0;·subst h0;simp only[ip,acm]at hl;subst hl;exact⟨[],by trivial,rfl,λw' _=>by rfl⟩
  have r:len≠0:=by intro e;subst e;omega
  have:=g (by omega);subst this;obtain⟨v,y,o,f,s,t,a⟩:=k.aF (i:=id) (by grind);rw[hb]at f;injection f with f;injection f with e1 e2;subst e1;subst e2;rw[hi]at a;cases o with|cells cs z fr=>obtain⟨A,B⟩:=CT a hl;grind[Az]|_=>trivial
 grind
theorem FY(j:bt P d ρ H w){x:AV}{c:Value}(g:VR ρ x c){size n:Nat}{l:List AV}(h:iS H size x=some (n,l)):∃f:List Value,be ρ l f∧l.length=n*size∧(∀w':World,(Builtin.lenOf c).run P w'=.ok n w')∧∀w':World,w'.heap=w.heap→(Builtin.firstCells size n c).run P w'=.ok f.toArray w':=by
 unfold iS at h;split at h;·obtain⟨rfl,rfl⟩:=h;have:=g.mN;subst this;exact⟨[],by trivial,by simp,λw'=>by rfl,λw' _=>by rfl⟩
 ·split at h;·rename_i r hl;obtain⟨rfl,rfl⟩:=h;obtain⟨ad,v,rfl,y,A,B,b,z,hb,k,C⟩:=g.oB;obtain⟨f,m,o,p⟩:=KB (P:=P) j hb k (by omega) rfl hl;exact⟨f,m,o,λw'=>by rfl,λw' q=>by simp[p,q,Builtin.firstCells]⟩
  grind
 ·rename_i s;split at h
  ·rename_i a;have a:=agO a;subst a;obtain⟨rfl,rfl⟩:=h;obtain⟨t,i,rfl⟩:=g.mM;have e:t.size=s.length:=by rw[←i,agZ,ahm];rfl
   refine⟨t.data.toList.map λb=>.int .u8 b.toNat,?_,by simp,λw'=>by simp[e,Builtin.lenOf],λw' _=>?_⟩;·rw[←i];generalize t.data.toList=l;induction l with|nil=>trivial|cons u l D=>trivial
   simp only[Builtin.firstCells,Sem.run_pure,Result.ok.injEq,and_true];rw[←e];have:t.extract 0 t.size=t:=by apply ByteArray.ext;rw[ByteArray.data_extract];exact Array.extract_size
   grind
  grind
 grind
theorem FZ(w:World)(A:Array Value)(L:List Value)(e:TypeId)(h:A.toList=L):w.alloc (.cells A e)={w with heap:=w.heap.push (.cells L.toArray e (0,0))}:=by subst h;rfl
theorem RW(C:bt P d ρ H w){s:AV}{sv:Value}(hs:VR ρ s sv){argTypes:Array TypeId}{ty sT e size T n:Nat}{l:List AV}{m:List Value}{x:Value}(R:uW P w argTypes e size x n m)(hl:be ρ l m)(u:l.length=n*size)(hT:argTypes[0]?=some sT)(hu:P.underlying sT=some (.slice e))(r:fE P e=some size)(a':yH P e=some T){z:Value}(hz:∀w,(zeroValue e).run P w=.ok z w)(ag:z.cells.size=size)(he:kw e T size H s n l=some (v,H')):∃c w',(Builtin.append_ argTypes ty #[sv,x]).run P w=.ok c w'∧cZ P d ρ w v H' c w':=by
 obtain⟨ti,ar,av⟩:=FP a';have ba:=be.length hl;unfold kw at he;split at he;·cases he
 rename_i J;have J:dI l=true:=by simpa using J
 have t:d9 d w w.drew:=(d9.refl d w).drew;split at he
 ·have:=hs.mN;subst this;have g:=R.run ty (.slice none 0 0) none 0 0 rfl sT hT hu r;split at he;·rename_i q;have q:=agO q;subst q;obtain⟨rfl,rfl⟩:=he;exact⟨_,w,g.1 (by omega) w (by simp),cZ.bS C (by simp[VR])⟩
  rename_i q;have q:n≠0:=λe=>q (by subst e;rfl);split at he
  ·rename_i p;simp only[agM]at p;obtain⟨rfl,rfl⟩:=he;have bb:=grownCap_ge w (0+n) 0 e;have h2:=g.2 (by omega) ti ar (by rw[agW,av];exact uV p.1) (by rw[agW];exact uV p.2) z hz #[] (by simp[Builtin.firstCells]);obtain⟨q1,q2,q3⟩:=yS (P:=P) (w:=w.drew) C.drew hl e (n*size) u.symm (Builtin.zeroCells z.cells (grownCap w (0+n) 0 e - (0+n))).toList;refine⟨_,_,h2,_,q1,?_,?_,?_⟩;·refine⟨by omega,adW _,by omega,(λh=>by cases h),_,_,aL.fy ..,λ_=>rfl,λ_=>?_⟩;rw[aL.tP];simp only[r,ahs,agP,ahm,FW,ag,←ba,u];rw[Nat.sub_mul];have:=ahf size bb;simp only[agW]at this⊢;omega
   ·rw[FZ _ _ (m++(Builtin.zeroCells z.cells (grownCap w (0+n) 0 e - (0+n))).toList) _ (by simp)];exact q2
   rw[FZ _ _ (m++(Builtin.zeroCells z.cells (grownCap w (0+n) 0 e - (0+n))).toList) _ (by simp)];exact t.trans q3
  cases he
 ·rename_i id off len cap ex;obtain⟨ad,D,rfl,q1,q2,q3,b,F,hb,q4,q5⟩:=hs.oB;have g:=R.run ty (.slice (some ad) len D) (some ad) len D rfl sT hT hu r;simp only at he;split at he
  ·rename_i a;have a:=agT a;split at he
   ·rename_i q;have q:=agO q;subst q;obtain⟨rfl,rfl⟩:=he;have bc:m=[]:=by rw[Nat.zero_mul]at u;exact List.length_eq_zero_iff.1 (by omega)
    subst bc;refine⟨_,w,g.1 (by omega) w (by simp[storeCells]),cZ.bS C ?_⟩;simp only[VR];exact⟨trivial,a,q2,q3,b,F,hb,q4,q5⟩
   rename_i q;have q:n≠0:=λe=>q (by subst e;rfl);split at he
   ·rename_i H2 hw;obtain⟨rfl,rfl⟩:=he;have:=q4 (by omega);subst this;obtain⟨k1,k2,k3⟩:=AB C hw hb hl;refine⟨_,_,g.1 (by omega) _ ?_,ρ,cz.refl ρ,?_,k2,k3⟩;·simp only[tQ];rw[show F+off+len*size=F+(off+len*size)by omega];exact k1
    simp only[VR];exact⟨trivial,a,q2,q3,b,F,hb,q4,q5⟩
   cases he
  rename_i a;have a:¬len+n≤cap:=λh=>a (ahi h);split at he;·cases he
  rename_i p;have p:fc ((len+n)*T)=true∧fc (len+n)=true:=by simpa using p
  split at he
  ·rename_i c mm e2 b5 aK fz hi;split at he;·cases he
   rename_i dJ fS;have bd:fj H id off (len*size)=some dJ:=by unfold fj;rw[hi];exact fS
   obtain⟨E,g1,g2,g3⟩:=KB (P:=P) C hb q4 (by omega) rfl bd;have bv:(Builtin.firstCells size len (.slice (some ad) len D)).run P w.drew=.ok E.toArray w.drew:=by simp only[Builtin.firstCells];exact g3 _ rfl
   have eS:be ρ (dJ++l) (E++m):=be.append g1 hl;have o:(len+n)*size=(dJ++l).length:=by rw[agP,g2,u,aig]
   have K:=be.length eS;have L:¬len+n≤D→∃f:List Value,f.length=(grownCap w (len+n) D e - (len+n))*size∧len+n≤grownCap w (len+n) D e∧(Builtin.append_ argTypes ty #[.slice (some ad) len D,x]).run P w=.ok (.slice (some ⟨w.heap.size,0,none⟩) (len+n) (grownCap w (len+n) D e)) {w.drew with heap:=w.heap.push (.cells (E++m++f).toArray e (0,0))}:=by intro q;refine⟨(Builtin.zeroCells z.cells (grownCap w (len+n) D e - (len+n))).toList,by rw[ahm,FW,ag],grownCap_ge ..,?_⟩;have h2:=g.2 q ti ar (by rw[av];exact uV p.1) (uV p.2) z hz E.toArray bv;rw[h2,FZ _ _ (E++m++(Builtin.zeroCells z.cells (grownCap w (len+n) D e - (len+n))).toList) _ (by simp)];rfl
   split at he;·rename_i G;obtain⟨rfl,rfl⟩:=he;have b6:=q3 G;obtain⟨f,r1,r2,r3⟩:=L (by omega);obtain⟨p1,p2,p3⟩:=yS (P:=P) (w:=w.drew) C.drew eS e ((len+n)*size) o f;refine⟨_,_,r3,_,p1,?_,p2.yM rfl,(t.trans p3).yM rfl rfl rfl rfl⟩;simp only[VR];refine⟨trivial,adW _,r2,(λh=>by cases h),_,_,aL.fy ..,λ_=>rfl,λ_=>?_⟩;rw[aL.tP];simp only[r,ahs,agP (as:=E++m),r1,←K,←o];rw[Nat.sub_mul];have:=ahf size r2;omega
   rename_i G;have G:ex=false:=by simpa using G
   subst G;split at he;case isFalse=>cases he
   rename_i M;simp only[agM]at M;obtain⟨⟨⟨⟨b0,V⟩,S⟩,W⟩,ax⟩:=M;subst b0;have V:=agO V;have S:=agO S;have W:=(agO W).symm;have ax:=agT ax;subst V;subst W;obtain⟨rfl,rfl⟩:=he;have ay:H.get id≠.none:=by rw[hi];simp
   obtain⟨cd,x',ob,Z,b',O,Q⟩:=C.aF ay;rw[hb]at Z;injection Z with Z;injection Z with e1 ca;subst e1;have i:=C.jQ id b F ob ay hb O;rw[hi]at Q i;cases ob with
   |cells cs el fr=>
    simp only[OR]at Q;simp only[gB,r,ahs]at i;obtain⟨o1,o2,o3,o4⟩:=Q;have N:=q5 rfl;rw[i]at N;simp only at N;by_cases A:len+n≤D
    ·have a6:D≠0:=by omega
     have:=q4 a6;subst this;have a8:=ahf size A;rw[aig]at a8;have dW:=Kj (P:=P) w O (F+off+len*size) m (by omega) (λj b3 X=>o4 trivial j (by omega) (by omega)) (be.FO hl J);obtain⟨f1,f2,f3,f4⟩:=FN b el fr m w cs (F+off+len*size) O;have Y:=CS (len*size) c mm off dJ fS;obtain⟨p1,p2,p3⟩:=C.Kk (w':=w.setCells b (F+off+len*size) m) hi hb (c2:=cM (dJ++l)) (n2:=(len+n)*size) (e2:=e) (fz2:=fz - off) (b2:=b) (x2:=F+off) (ob2:=.cells (wr cs (F+off+len*size) m) el fr) (ρ.k b) (by simp only[gB,tT,r,ahs];exact i) (λ_=>rfl) (by
      refine⟨o1,by rw[tT,aig];omega,λj hj=>?_,λ_ j b3 X=>o4 trivial j (by omega) (by rw[tT]at X;exact X)⟩;have B:cz ρ (ρ.add H.next b (F+off) (ρ.k b)):=aL.sd _ _ _ (C.dV _ (adW _)).2 (λ_ _ _ _ hc=>by rw[←hc]);rw[pa _ _ (by omega),AA _ _ _ _ (by omega)];by_cases b4:j<len*size;·rw[an (by omega)];obtain⟨y,hy,I⟩:=o3 (off+j) (by omega);refine⟨y,by rw[←hy];congr 1;omega,VR.mono B _ _ ?_⟩;simp only[List.getD];rw[ahd (by omega),Y.2.2 j b4];exact I
      rw[aH (by rw[aig]at hj;omega)];have a1:j - len*size<l.length:=by rw[aig]at hj;omega
      obtain⟨y,hy,I⟩:=be.get hl (j - len*size) l[j - len*size] (by simp[a1]);refine⟨y,by rw[←hy];congr 1;omega,VR.mono B _ _ ?_⟩;simp only[List.getD];rw[List.getElem?_append_right (by omega),g2,ahr a1];exact I) f2 f3 f4 (.inr ⟨rfl,f1,by rw[aig];omega,cs,_,el,fr,O,rfl,tT ..,λj hj=>by rw[AA _ _ _ _ (by omega),an (by omega)]⟩);refine⟨_,_,g.1 A _ (by simp only[tQ];exact dW),_,p1,?_,p2,p3⟩;simp only[VR];refine⟨trivial,adW _,A,(λh=>by cases h),_,_,aL.fy ..,λ_=>by simp,λ_=>?_⟩;rw[aL.tP,i];simp only;omega
    obtain⟨f,r1,r2,r3⟩:=L A;obtain⟨p1,p2,p3⟩:=C.drew.Kk (w':={w.drew with heap:=w.heap.push (.cells (E++m++f).toArray e (0,0))}) hi hb (c2:=cM (dJ++l)) (n2:=(len+n)*size) (e2:=e) (fz2:=fz - off) (b2:=w.heap.size) (x2:=0) (ob2:=.cells (E++m++f).toArray e (0,0)) ((E++m++f).length,size) (by simp only[gB,r,ahs,List.size_toArray]) (λh=>by omega) (by
     simp only[OR];refine⟨trivial,by rw[List.size_toArray,agP (as:=E++m),←K];omega,λj hj=>?_,λ_ j _ _=>by omega⟩;have B:cz ρ (ρ.add H.next w.heap.size 0 ((E++m++f).length,size)):=aL.sd _ _ _ (C.dV _ (adW _)).2 (λj' c' y' Z hc=>by have:=C.fu j' c' y' Z;omega);rw[pa _ _ (by omega)];have a2:j<(dJ++l).length:=by omega
     obtain⟨y,hy,I⟩:=be.get eS j (dJ++l)[j] (by simp only[ahr a2]);refine⟨y,?_,VR.mono B _ _ ?_⟩;·rw[agW,List.getElem?_toArray,ahd (by omega)];exact hy
     simp only[List.getD];rw[ahr a2];exact I) rfl rfl rfl (.inl ⟨rfl,rfl⟩);refine⟨_,_,r3,_,p1,?_,p2,t.trans p3⟩;simp only[VR];refine⟨trivial,adW _,r2,(λh=>by cases h),_,_,aL.fy ..,λ_=>rfl,λ_=>?_⟩;rw[aL.tP];simp only[agP (as:=E++m),r1,←K,←o];rw[Nat.sub_mul];have:=ahf size r2;omega
   |_=>simp[OR]at Q
  cases he
 cases he
end
section
variable{P:Program}{f:cJ}{ρ:aL}{H H':af}{w:World}{nt:Nat}{aa:am AV}{a:Act}{o:Oper}{ao:bO}{v:AV}
theorem RX(h:dR P f ρ H w nt aa a){c:Call}(W:o.op=.call c)(hb:c.callee=.builtin .append)(g:bN P nt o=some ao)(he:aB ao aa H=some (v,H')):bx P f ρ w (execOp a.eval o) v H':=by
 simp only[bN,W,hb,adO,acR]at g;obtain⟨t,Z,d,hd,g⟩:=g;obtain⟨G,N⟩:=uU (P:=P) (a:=a) W hb w;split at g
 ·rename_i e;simp only[acR]at g;obtain⟨size,O,z,hz,g⟩:=g;split at g;·grind
  rename_i j;have b:z.cells.length=size∧size≠0∧c.args.size=2:=by simpa[not_or]using j
  have j:z.cells.length=size∧size≠0:=⟨b.1,b.2.1⟩;have Q:=b.2.2;simp only[acR,af1,acm]at g;obtain⟨xT,q,d2,r,R,s,os,⟨X,S,B⟩,ox,⟨J,T,C⟩,rfl⟩:=g;obtain⟨zv,u,x,y⟩:=tW hz;have A:zv.cells.size=size:=by have:=be.length (VR.cells (x ρ) y);simp at this;omega
  have gs:=h.gv B;have K:=h.gv C;have p:c.args.map a.eval= #[a.eval X,a.eval J]:=by apply Array.ext_getElem?;intro i;match i with|0=>simp[S]|1=>simp[T]|i+2=>rw[ahE (by simp[Q]),ahE (by simp)]
  have D:(execOp a.eval o).run P w=((Builtin.append_ c.argTypes o.type #[a.eval X,a.eval J]).run P w).andThen λv w=>.ok (.value v) w:=by rw[N];simp only[builtin,p,Sem.run_bind,Sem.run_pure]
  have aq:∀{n:Nat}{l:List AV}{m:List Value},uW P w c.argTypes e size (a.eval J) n m→be ρ l m→l.length=n*size→kw e R size H (gv aa os) n l=some (v,H')→bx P f ρ w (execOp a.eval o) v H':=by intro n l m E hl F he;obtain⟨c',w',L,M⟩:=RW (ty:=o.type) h.I gs E hl F Z hd O s u A he;exact bx.val (by rw[D,L];rfl) M
  simp only[aB]at he;split at he
  ·simp only[bm]at he;split at he
   ·rename_i n hv;split at he;·rename_i hs;simp only[agM]at hs;rw[hv]at K;obtain⟨k',ag,hx⟩:=K.jz;rw[hx]at aq;refine aq (uW.RV q r s (uV hs.1) (uV hs.2) u A) (C1 (VR.cells (x ρ) y) n (by omega)) (by simp[j,AH]) he
    grind
   grind
  rename_i hm;simp only[ac6,bK]at he;split at he;·rename_i n l V;obtain⟨ms,L,M,k3,Y⟩:=FY (P:=P) h.I K V;exact aq (uW.RU q r (λk e=>hm k e) k3 (Y _ rfl) (Y _ rfl)) L M he
  grind
 grind
theorem RY(h:dR P f ρ H w nt aa a){c:Call}(ho:o.op=.call c)(hb:c.callee=.builtin .copy)(G:bN P nt o=some ao)(he:aB ao aa H=some (v,H')):bx P f ρ w (execOp a.eval o) v H':=by
 simp only[bN,ho,hb,adO,acR]at G;obtain⟨t,Y,d,hd,G⟩:=G;obtain⟨X,y⟩:=uU (P:=P) (a:=a) ho hb w;split at G
 ·rename_i e;simp only[acR,af1,acm]at G;obtain⟨size,A,od,⟨yd,ag,N⟩,os,⟨K,ar,O⟩,rfl⟩:=G;have R:=h.gv N;have k:=h.gv O;have B:(c.args.map a.eval)[0]?=some (a.eval yd):=by simp[ag]
  have C:(c.args.map a.eval)[1]?=some (a.eval K):=by simp[ar]
  simp only[aB]at he;split at he
  ·rename_i p Z m;obtain⟨n,l⟩:=p;simp only[acm,age]at he;obtain⟨rfl,rfl⟩:=he;rw[Z]at R;have S:=R.mN;obtain⟨J,k1,k2,T,V⟩:=FY (P:=P) h.I k m;have av:(Builtin.firstCells size 0 (a.eval K)).run P w=.ok #[] w:=by have:=V w rfl;revert this;cases a.eval K with|slice b l c=>cases b<;>simp[Builtin.firstCells,loadCells,loadCellsFrom]|string s=>intro _;simp[Builtin.firstCells]|_=>simp[Builtin.firstCells]
   refine bx.val (c:=goInt 0) (w':=w) ?_ (cZ.bS h.I (VR.goInt ρ 0));rw[y];simp[builtin,Builtin.copy_,Y,bW hd,B,C,S,T,jl A,av]
  ·rename_i id off len cap ex n l Z m;rw[Z]at R;obtain⟨ad,cp,S,q1,q2,q3,b,z,ax,q4,q5⟩:=R.oB;obtain⟨J,k1,k2,T,V⟩:=FY (P:=P) h.I k m;have i:(Builtin.firstCells size (min n len) (a.eval K)).run P w=.ok (J.take (min n len*size)).toArray w:=by
    have:=V w rfl;have bd:=be.length k1;revert this;cases q:a.eval K with
    |slice bc ll cc=>
     cases bc with
     |none=>
      simp only[Builtin.firstCells,Sem.run_pure,Result.ok.injEq,and_true];intro h;have:J=[]:=by simpa using h.symm
      subst this;simp
     |some bv=>
      intro _;rw[q]at k;have g:=m;unfold iS at g;split at g;·rename_i x;rw[x]at k;have:=k.mN;cases this
      ·rename_i ay r a' ba b0 x;rw[x]at k;obtain⟨b3,b4,e3,r1,r2,r3,cd,z3,a1,r4,r5⟩:=k.oB;simp only[Value.slice.injEq,acm]at e3;obtain⟨rfl,rfl,rfl⟩:=e3;split at g
       ·rename_i l' u;simp only[acm,age]at g;obtain⟨rfl,rfl⟩:=g;simp only[Builtin.firstCells];unfold fj at u;split at u
        ·rename_i c3 n3 e4 b5 bb b6 L;have j:=V w rfl;rw[q]at j;simp only[Builtin.firstCells]at j;rcases Nat.eq_zero_or_pos (min n3 0+min ll len*size)with h0|h0
         ·have:min ll len*size=0:=by omega
          rw[this];simp[loadCells,loadCellsFrom]
         have a2:min ll len*size≠0:=by omega
         have b':ll≠0:=by intro e;subst e;simp at a2
         have:=r4 (by omega);subst this;obtain⟨cf,x',ob,W,ca,M,D⟩:=h.I.aF (i:=ay) (by rw[L];simp);rw[a1]at W;injection W with W;injection W with e1 e2;subst e1;subst e2;rw[L]at D;cases ob with
         |cells cs el fr=>
          obtain⟨w1,w2⟩:=CT D u;have Q:min ll len*size≤ll*size:=ahf size (Nat.min_le_left _ _);have a6:=w2 (by omega);have e5:=Az (P:=P) w M (z3+r) (ll*size) a6;rw[j]at e5;simp only[Result.ok.injEq,and_true]at e5;have e6:J=List.take (ll*size) (List.drop (z3+r) cs.toList):=by simpa using e5
          rw[Az (P:=P) w M (z3+r) (min ll len*size) (by omega),e6,List.take_take,aid Q]
         |_=>simp[OR]at D
        cases u
       cases g
      ·rename_i x;rw[x]at k;obtain⟨t,_,e⟩:=k.mM;cases e
      cases g
    |string s=>
     simp only[Builtin.firstCells,Sem.run_pure,Result.ok.injEq,and_true];intro x;rw[q]at k;have g:=m;unfold iS at g;split at g;·rename_i E;rw[E]at k;have:=k.mN;cases this
     ·rename_i E;rw[E]at k;obtain⟨_,_,e,_⟩:=k.oB;cases e
     ·split at g
      ·rename_i F;have F:=agO F;subst F;have e6:J=((s.extract 0 n).data.map λb=>Value.int .u8 b.toNat).toList:=by rw[x]
       rw[e6,ah9];apply Array.toList_inj.1;simp only[Array.toList_map,ByteArray.data_extract,Array.toList_extract,List.extract_eq_drop_take,List.drop_zero,aip];rw[←List.map_take,List.take_take];congr 2;omega
      cases g
     cases g
    |_=>simp[Builtin.firstCells]
   split at he;·rename_i hm;simp only[acm,age]at he;obtain⟨rfl,rfl⟩:=he;rw[hm]at i;refine bx.val (c:=goInt 0) (w':=w) ?_ (cZ.bS h.I (VR.goInt ρ 0));have a8:Nat.min n len=0:=hm;rw[y];simp[builtin,Builtin.copy_,Y,bW hd,B,C,S,T,jl A,a8,i,storeCells]
   rename_i hm;split at he;·rename_i H2 hw;simp only[acm,age]at he;obtain⟨rfl,rfl⟩:=he;have:=q4 (by omega);subst this;obtain⟨p1,p2,p3⟩:=AB h.I hw ax (be.take (min n len*size) k1);refine bx.val (c:=goInt ((min n len:Nat):Int)) (w':=w.setCells b (z+off) (J.take (min n len*size))) ?_ ⟨ρ,cz.refl ρ,VR.goInt ρ _,p2,p3⟩;rw[y];simp only[builtin,Builtin.copy_,Y,B,C,Sem.run_bind,bW hd,Result.andThen_ok,S,T,jl A];rw[show Nat.min n len=min n len from rfl,i];simp[p1]
   cases he
  cases he
 grind
theorem RZ(h:dR P f ρ H w nt aa a){c:Call}(K:o.op=.call c)(hb:c.callee=.builtin .clear){L:List AV}{x:aG}(S:ao=.yt L x)(k:bN P nt o=some ao)(he:aB ao aa H=some (v,H')):bx P f ρ w (execOp a.eval o) v H':=by
 simp only[bN,K,hb,adO,acR]at k;obtain⟨t,B,d,hd,k⟩:=k;obtain⟨D,e⟩:=uU (P:=P) (a:=a) K hb w;split at k
 ·simp only[acR,af1,acm]at k;obtain⟨z,M,od,⟨N,G,u⟩,rfl⟩:=k;obtain⟨zv,m,p,q⟩:=tW M;have C:=h.gv u;have g:(c.args.map a.eval)[0]?=some (a.eval N):=by simp[G]
  simp only[aB]at he;split at he;·rename_i E;obtain⟨rfl,rfl⟩:=he;rw[E]at C;have l:=C.mN;refine bx.val (c:=.tuple #[]) (w':=w) ?_ (cZ.bS h.I (VR.aiw ρ));rw[e];simp[builtin,Builtin.clear_,B,g,bW hd,l]
  ·rename_i id off n cap ex E;rw[E]at C;obtain⟨ad,T,l,V,W,X,b,y,r,O,Y⟩:=C.oB;split at he;·rename_i Q;obtain⟨rfl,rfl⟩:=he;subst Q;refine bx.val (c:=.tuple #[]) (w':=w) ?_ (cZ.bS h.I (VR.aiw ρ));rw[e];simp[builtin,Builtin.clear_,B,g,bW hd,l]
   split at he
   ·rename_i Z F;obtain⟨rfl,rfl⟩:=he;have:=O (by omega);subst this;by_cases s:z.cells.length=0
    ·have A:z.cells=[]:=List.length_eq_zero_iff.1 s;have j:∀n,fx z.cells n=[]:=by intro n;rw[A];induction n with|zero=>rfl|succ n R=>simp[fx,R]
     rw[j]at F;have J:zv.cells.size=0:=by have:=be.length (VR.cells (p ρ) q);simp at this;omega
     obtain⟨p1,p2,p3⟩:=AB h.I F r (m:=[]) (by trivial);refine bx.val (c:=.tuple #[]) (w':=w.setCells b (y+off) []) ?_ ⟨ρ,cz.refl ρ,VR.aiw ρ,p2,p3⟩;rw[e];have i:(Builtin.zeroCells zv.cells n).toList=[]:=by apply List.length_eq_zero_iff.1;rw[ahm,FW,J];omega
     simp[builtin,Builtin.clear_,B,g,bW hd,l,m,i,p1]
    obtain⟨p1,p2,p3⟩:=AB h.I F r (C1 (VR.cells (p ρ) q) n s);refine bx.val (c:=.tuple #[]) (w':=w.setCells b (y+off) ((ait (n*zv.cells.size)).map (zv.cells[·% zv.cells.size]!)).toList) ?_ ⟨ρ,cz.refl ρ,VR.aiw ρ,p2,p3⟩;rw[e];have i:(Builtin.zeroCells zv.cells n).toList=((ait (n*zv.cells.size)).map (zv.cells[·% zv.cells.size]!)).toList:=rfl;simp only[builtin,Builtin.clear_,B,g,Sem.run_bind,bW hd,Result.andThen_ok,l,m,i,p1,Sem.run_pure]
   grind
  grind
 all_goals simp_all[acR,af1,acm]
end
end
end Go.ak
end
