/- A part of the proof (an abstract machine, walks): no statement of its own, no conditions. -/
import Derived.Test.YtndbmjcpgefblaaGreatDoorA00
import GoSem.Core.Region
import Derived.Control
import Derived.Below
set_option linter.all false
namespace Go.Abs
mutual
def ofVal:Value→Option AV
  | .bool b=>some (.bool b)
  | .int k n=>some (.int (kc k) n)
  | .string s=>some (.str (s.data.toList.map UInt8.toNat))
  | .pointer none=>some .nilptr
  | .slice none 0 0=>some .nilslice
  | .map none=>some .nilmap
  | .nilFunc=>some .nilFunc
  | .nilIface=>some .nilIface
  | .func (.func f) a b=>match ofVals a.toList,ofVals b.toList with
    | some a,some b=>some (.func f a b)
    | _,_=>none
  | .agg l=>(ofVals l.toList).map .agg
  | .tuple l=>(ofVals l.toList).map .tuple
  | .iface t v=>(ofVal v).map (.iface t)
  | _=>none
def ofVals:List Value→Option (List AV)
  | []=>some []
  | v::l=>match ofVal v,ofVals l with
    | some v,some l=>some (v::l)
    | _,_=>none
end
variable (P:Program) (nt:Nat)
def cOpd:Operand→Option Opd
  | .tmp t=>if t<nt then some (.t (Pos.slot t)) else none
  | .const v=>(ofVal v).map .c
  | .global g=>if g<P.globals.size then some (.c (.ptr (Pos.slot g) 0)) else none
  | .func f=>some (.c (.func f [] []))
def cOpds (l:Array Operand):Option (List Opd):=l.toList.mapM (cOpd P nt)
def cOpdO:Option Operand→Option (Option Opd)
  | none=>some none
  | some x=>(cOpd P nt x).map some
def info (t:TypeId):Option TypeInfo:=P.info? t
def und (t:TypeId):Option TypeDesc:=P.underlying t
def szOf (t:TypeId):Option Nat:=(P.info? t).map (·.size)
def byOf (t:TypeId):Option Nat:=(P.info? t).map (·.bytes)
def zeroOf (t:TypeId):Option AV:=(P.info? t).bind fun i=>i.zero.bind ofVal
def aggOf (t:TypeId):Option Bool:=(P.underlying t).map fun d=>match d with | .struct _ | .array _ _=>true | _=>false
def eqD:(fuel:Nat)→(const:Bool)→TypeId→Option EqD
  | 0,_,_=>none
  | f+1,const,t =>
    match P.underlying t with
    | some .bool=>some .bool
    | some (.int _)=>some .int
    | some .string=>some .str
    | some (.pointer e)=>match szOf P e with
      | some (_+1)=>some .ptr
      | _=>none
    | some (.slice _)=>some .slice
    | some (.map ..)=>some .map
    | some (.func ..)=>some .func
    | some (.interface ms)=>some (.iface const ms.isEmpty)
    | some (.struct fs) =>
      if P.stoodInHeld t then none else
      (fs.toList.mapM fun (g:Field)=>if g.name="_" then none else match eqD f false g.type,szOf P g.type,aggOf P g.type with
        | some d,some s,some a=>some (g.offset,s,a,d)
        | _,_,_=>none).map .parts
    | some (.array n e)=>match eqD f false e,szOf P e,aggOf P e with
      | some d,some s,some a=>some (.parts ((List.range n).map fun i=>(i*s,s,a,d)))
      | _,_,_=>none
    | _=>none
def keyD (t:TypeId):Option EqD :=
  match P.underlying t with
  | some (.int _) | some .string | some .bool | some (.struct _) | some (.array ..)=>eqD P 16 false t
  | _=>none
def noGuard (d:EqD) (t:TypeId):Bool :=
  match d with
  | .parts _=>!P.eqGuardType P.depth t
  | _=>true
def isConstO:Operand→Bool
  | .const _=>true
  | _=>false
def cOp (o:Oper):Option AOp:=do
  let opd:=cOpd P nt
  match o.op with
  | .move x | .assign x=>return .mov (← opd x)
  | .pick c a b=>return .pick (← opd c) (← opd a) (← opd b)
  | .alloc e=>return .alloc e (← zeroOf P e).cells
  | .box e x=>return .box e (← opd x)
  | .build t parts =>
    let zs:=(← zeroOf P t).cells
    match ← und P t with
    | .struct fs =>
      let places ← fs.toList.mapM fun (f:Field)=>(szOf P f.type).map fun s=>(f.offset,s)
      let l ← parts.toList.mapM fun (p:Nat × Operand)=>(places[p.1]?).bind fun q=>(opd p.2).map fun x=>(q.1,q.2,x)
      return .build zs l
    | .array _ e =>
      let s ← szOf P e
      let l ← parts.toList.mapM fun (p:Nat × Operand)=>(opd p.2).map fun x=>(p.1*s,s,x)
      return .build zs l
    | _=>none
  | .buildSlice t len parts =>
    match ← und P t with
    | .slice e =>
      let s ← szOf P e
      let zs:=(← zeroOf P e).cells
      if zs.length≠s∨s=0∨len*s > 65536 then none else
      let l ← parts.toList.mapM fun (p:Nat × Operand)=>(opd p.2).map fun x=>(p.1*s,s,x)
      return .buildSlice e len zs l
    | _=>none
  | .load t a=>if ← aggOf P t then return .loadN (← szOf P t) (← opd a) else return .load1 (← opd a)
  | .store t a x=>return .store (← szOf P t) (← opd a) (← opd x)
  | .nilCheck x=>return .nilCheck (← opd x)
  | .binOp op t x y _ =>
    match op,← und P t with
    | .shl,.int _ | .shr,.int _=>return .shift op (← opd x) (← opd y)
    | _,.int k=>return .arith op (kc k) (← opd x) (← opd y)
    | _,.string=>return .strOp op (← opd x) (← opd y)
    | .eql,_ =>
      let d ← eqD P 16 (isConstO x||isConstO y) t
      if noGuard P d t then return .eq false d (← opd x) (← opd y) else none
    | .neq,_ =>
      let d ← eqD P 16 (isConstO x||isConstO y) t
      if noGuard P d t then return .eq true d (← opd x) (← opd y) else none
    | _,_=>none
  | .unOp op _ x=>return .unary op (← opd x)
  | .convert s d x =>
    match ← und P s,← und P d with
    | .int _,.int k=>return .convInt (kc k) (← opd x)
    | .string,.string=>return .idStr (← opd x)
    | .string,.slice e=>if (← und P e) matches .int .u8 then (if szOf P e=some 1 then return .convBytes e (← opd x) else none) else none
    | .slice e,.string=>if (← und P e) matches .int .u8 then return .convStr (← opd x) else none
    | _,_=>none
  | .makeInterface t x=>if (← und P t) matches .interface _ then none else return .mkIface t (← opd x)
  | .makeFunc (.func f) a b=>return .mkFunc f (← cOpds P nt a) (← cOpds P nt b)
  | .makeMap _ none=>return .mkMap
  | .makeMap _ (some _)=>none
  | .makeSlice t l c =>
    match ← und P t with
    | .slice e =>
      let s ← szOf P e
      let zs:=(← zeroOf P e).cells
      if zs.length≠s∨s=0 then none else return .mkSlice e (← byOf P e) s zs (← opd l) (← opd c)
    | _=>none
  | .slice t x lo hi mx =>
    match ← und P t with
    | .array n e=>if mx.isSome&&hi.isNone then none else return .sliceArr n (← szOf P e) (← opd x) (← cOpdO P nt lo) (← cOpdO P nt hi) (← cOpdO P nt mx)
    | .slice e=>if mx.isSome&&hi.isNone then none else
      let s ← szOf P e
      if s=0 then none else return .sliceSl e s (← opd x) (← cOpdO P nt lo) (← cOpdO P nt hi) (← cOpdO P nt mx)
    | .string=>if mx.isSome then none else return .sliceStr (← opd x) (← cOpdO P nt lo) (← cOpdO P nt hi)
    | _=>none
  | .fieldAddr t x i =>
    match ← und P t with
    | .struct fs =>
      let f ← fs[i]?
      if (← szOf P f.type)=0 then none else return .addOff f.offset (← opd x)
    | _=>none
  | .field t x i =>
    match ← und P t with
    | .struct fs =>
      let f ← fs[i]?
      return .part (← aggOf P f.type) f.offset (← szOf P f.type) (← opd x)
    | _=>none
  | .indexAddr t x i =>
    match ← und P t with
    | .array n e=>return .idxArr n (← szOf P e) (← opd x) (← opd i)
    | .slice e=>return .idxSl (← szOf P e) (← opd x) (← opd i)
    | _=>none
  | .index t x i =>
    match ← und P t with
    | .array n e=>return .idxAgg (← aggOf P e) n (← szOf P e) (← opd x) (← opd i)
    | .string=>return .idxStr (← opd x) (← opd i)
    | _=>none
  | .lookup t m k ok =>
    match ← und P t with
    | .map kt e=>return .lookup (← keyD P kt) (← zeroOf P e) ok (← opd m) (← opd k)
    | _=>none
  | .mapUpdate t m k v | .insert t m k v =>
    match ← und P t with
    | .map kt _=>return .mapUpd (← keyD P kt) (← opd m) (← opd k) (← opd v)
    | _=>none
  | .mapEntry t m k =>
    match ← und P t with
    | .map kt e=>return .mapEntry (← keyD P kt) (← zeroOf P e) (← opd m) (← opd k)
    | _=>none
  | .entryStore _ m s v=>return .entryStore (← opd m) (← opd s) (← opd v)
  | .range t x=>match ← und P t with
    | .string=>return .rangeStr (← opd x)
    | .map ..=>return .rangeMap (← opd x)
    | _=>none
  | .entry it=>return .entryMap (← opd it)
  | .next it isString=>if isString then return .nextStr (← opd it) else return .nextMap (← opd it)
  | .typeAssert x _ t ok=>if (← und P t) matches .interface _ then none else return .typeAssert t (← zeroOf P t) ok (← opd x)
  | .extract x i=>return .extract (← opd x) i
  | .call c =>
    match c.callee with
    | .value f=>return .call (← opd f) (← cOpds P nt c.args)
    | .builtin b =>
      let arg (i:Nat):Option Opd:=(c.args[i]?).bind opd
      match b with
      | .len=>match ← und P (← c.argTypes[0]?) with
        | .array n _=>(arg 0).bind fun _=>some (.lenC n)
        | .pointer e=>match ← und P e with
          | .array n _=>(arg 0).bind fun _=>some (.lenC n)
          | _=>none
        | .string=>return .lenStr (← arg 0)
        | .slice _=>return .lenSl (← arg 0)
        | .map ..=>return .lenMap (← arg 0)
        | _=>none
      | .cap=>match ← und P (← c.argTypes[0]?) with
        | .slice _=>return .cap (← arg 0)
        | _=>none
      | .append=>match ← und P (← c.argTypes[0]?) with
        | .slice e =>
          let s ← szOf P e
          let zs:=(← zeroOf P e).cells
          if zs.length≠s∨s=0∨c.args.size≠2 then none else
          let d ← und P (← c.argTypes[1]?)
          return .append e (← byOf P e) s zs (d matches .int _) (← arg 0) (← arg 1)
        | _=>none
      | .copy=>match ← und P (← c.argTypes[0]?) with
        | .slice e=>return .copy (← szOf P e) (← arg 0) (← arg 1)
        | _=>none
      | .clear=>match ← und P (← c.argTypes[0]?) with
        | .slice e=>return .clearSl (← zeroOf P e).cells (← arg 0)
        | .map ..=>return .clearMap (← arg 0)
        | _=>none
      | .delete=>match ← und P (← c.argTypes[0]?) with
        | .map kt _=>return .delete (← keyD P kt) (← arg 0) (← arg 1)
        | _=>none
      | .min=>return .minmax false (← cOpds P nt c.args)
      | .max=>return .minmax true (← cOpds P nt c.args)
      | _=>none
    | _=>none
  | _=>none
def AOp.chain:AOp→Bool
  | .store .. | .mapUpd .. | .mapEntry .. | .entryStore .. | .nextStr _ | .nextMap _ | .rangeMap _ | .append .. | .copy .. | .clearSl .. | .clearMap .. | .delete .. | .call .. | .stop=>true
  | _=>false
def AOp.makes:AOp→Bool
  | .box .. | .alloc .. | .buildSlice .. | .convBytes .. | .mkMap | .mkSlice .. | .rangeStr _=>true
  | _=>false
def AOp.reads:AOp→Bool
  | .load1 _ | .loadN .. | .lookup .. | .lenMap _ | .convStr _ | .sliceSl _ _ _ (some _) _ _=>true
  | _=>false
def AOp.plain:AOp→Bool
  | .mov _ | .pick .. | .build .. | .nilCheck _ | .arith .. | .shift .. | .strOp .. | .eq .. | .unary .. | .convInt .. | .idStr _ | .mkIface .. | .mkFunc .. | .sliceArr .. | .sliceStr .. | .addOff .. | .part .. | .idxArr .. | .idxSl ..
  | .idxAgg .. | .idxStr .. | .typeAssert .. | .extract .. | .lenC _ | .lenStr _ | .lenSl _ | .cap _ | .minmax .. | .sliceSl _ _ _ none _ _=>true
  | _=>false
def Opd.slots:Opd→List Pos
  | .t p=>[p]
  | .c _=>[]
def optSlots:Option Opd→List Pos
  | some x=>x.slots
  | none=>[]
def AOp.slots:AOp→List Pos
  | .mov x | .box _ x | .load1 x | .loadN _ x | .nilCheck x | .unary _ x | .convInt _ x | .convBytes _ x | .convStr x | .idStr x | .mkIface _ x | .addOff _ x | .part _ _ _ x | .rangeStr x | .nextStr x | .rangeMap x | .nextMap x | .entryMap x
  | .typeAssert _ _ _ x | .extract x _ | .lenStr x | .lenSl x | .lenMap x | .cap x | .clearSl _ x | .clearMap x=>x.slots
  | .pick c a b=>c.slots++(a.slots++b.slots)
  | .alloc .. | .mkMap | .stop | .lenC _=>[]
  | .build _ ps | .buildSlice _ _ _ ps=>ps.flatMap fun p=>p.2.2.slots
  | .store _ a x=>a.slots++x.slots
  | .arith _ _ x y | .shift _ x y | .strOp _ x y | .eq _ _ x y | .idxArr _ _ x y | .idxSl _ x y | .idxAgg _ _ _ x y | .idxStr x y | .lookup _ _ _ x y | .mapEntry _ _ x y | .append _ _ _ _ _ x y | .copy _ x y | .delete _ x y | .mkSlice _ _ _ _ x y=>x.slots++y.slots
  | .mkFunc _ a b=>a.flatMap Opd.slots++b.flatMap Opd.slots
  | .sliceArr _ _ x a b c | .sliceSl _ _ x a b c=>x.slots++(optSlots a++(optSlots b++optSlots c))
  | .sliceStr x a b=>x.slots++(optSlots a++optSlots b)
  | .mapUpd _ m k v=>m.slots++(k.slots++v.slots)
  | .entryStore m s v=>m.slots++(s.slots++v.slots)
  | .minmax _ l=>l.flatMap Opd.slots
  | .call f l=>f.slots++l.flatMap Opd.slots
def AOper.names (x:AOper):List Pos:=(match x.guard with | some (g,_)=>[g] | none=>[])++x.op.slots
def isVCall:Op→Bool
  | .call c=>match c.callee with
    | .value _=>true
    | _=>false
  | _=>false
def AOp.isCall:AOp→Bool
  | .call ..=>true
  | _=>false
def cDst (o:Oper):Option (Option Pos) :=
  match o.dst with
  | some d=>if d<nt then some (some (Pos.slot d)) else none
  | none=>some none
def cGuard (ops:Array Oper) (o:Oper):Option (Option (Pos × Bool)) :=
  match o.guard with
  | none=>some none
  | some (j,want)=>match (ops[j]?).bind (·.dst) with
    | some d=>if d<nt then some (some (Pos.slot d,want)) else none
    | none=>none
def cOper (ops:Array Oper) (o:Oper):Option AOper :=
  let op0:=(cOp P nt o).getD .stop
  let op:=if op0.isCall&&!isVCall o.op then .stop else op0
  match cDst nt o,cGuard nt ops o with
  | some dst,some guard=>some { dst,op,guard,hide:=[],re:=[] }
  | _,_=>none
def order (l:List AOper) (anc:Array Nat):(fuel:Nat)→(done:Nat)→List Nat→List Nat
  | 0,_,acc=>acc.reverse
  | f+1,done,acc =>
    let free (i:Nat):Bool:=!done.testBit i&&((anc.getD i 0) &&& done==anc.getD i 0)
    let chain (i:Nat):Bool:=match l[i]? with | some o=>o.op.chain | none=>true
    let rs:=(List.range l.length).filter free
    match (rs.find? fun i=>!chain i) <|> rs.head? with
    | some i=>order l anc f (done ||| 2 ^ i) (i::acc)
    | none=>acc.reverse
def hides (l:List AOper) (anc:Array Nat) (seen:List Nat) (i:Nat):List Pos :=
  seen.filterMap fun j=>match l[j]? with
    | some r=>if r.op.makes&&!(anc.getD i 0).testBit j then r.dst else none
    | none=>none
def reads (l:List AOper) (anc:Array Nat) (seen:List Nat) (i:Nat):List ARe :=
  seen.filterMap fun j=>match l[j]? with
    | some r=>if r.op.reads&&!(anc.getD i 0).testBit j then r.dst.map fun d=>⟨d,r.op,r.guard⟩ else none
    | none=>none
def withRe (l:List AOper) (anc:Array Nat) (seen:List Nat) (i:Nat) (o:AOper):AOper :=
  { o with hide:=if o.op.chain||o.op.reads then hides l anc seen i else [],re:=if o.op.chain then reads l anc seen i else [] }
def addRe (l:List AOper) (anc:Array Nat) (seen:List Nat):List Nat→List AOper
  | []=>[]
  | i::rest =>
    match l[i]? with
    | some o=>withRe l anc seen i o::addRe l anc (i::seen) rest
    | none=>[]
def okPair (l:List AOper) (anc:Array Nat) (i j:Nat):Bool :=
  match l[i]?,l[j]? with
  | some x,some y =>
    let ij:=(anc.getD j 0).testBit i
    i != j&&!(anc.getD i 0).testBit j &&
    (match x.dst with
     | some d=>(match y.dst with | some e=>d != e | none=>true)&&(ij||!y.names.contains d)
     | none=>true) &&
    (match y.dst with
     | some d=>!x.names.contains d||(ij&&!x.op.reads)
     | none=>true) &&
    (!x.op.chain||(ij&&(anc.getD i 0 &&& anc.getD j 0)==anc.getD i 0))
  | _,_=>false
def okOne (x:AOper):Bool :=
  x.op.chain||x.op.plain||(match x.dst with
    | some d=>x.op.makes||(x.op.reads&&!x.names.contains d)
    | none=>false)
def okPairs (l:List AOper) (anc:Array Nat):List Nat→Bool
  | []=>true
  | i::rest=>(match l[i]? with | some x=>okOne x | none=>false)&&rest.all (okPair l anc i)&&okPairs l anc rest
def edgesOk (ops:Array Oper):Bool:=ops.toList.zipIdx.all fun p=>p.1.after.all fun e=>!Region.binds .any e||decide (e.on<p.2)
def cRegion (ops:Array Oper) (draw:Bool):Option (List AOper):=do
  let l ← ops.toList.mapM (cOper P nt ops)
  if !draw then return l
  let anc:=Region.before ops
  let ord:=order l anc ops.size 0 []
  if (P.follows .mixedOrders||!Region.departs ops)&&edgesOk ops&&(List.range ops.size).all ord.contains&&okPairs l anc ord then return addRe l anc [] ord else none
class Ov where
  over:ACode→Option Nat
  code:Nat→ACode
  law:∀ b t,over b=some t→b=code t
variable [Ov]
def cCode:Code→Option ACode
  | .skip | .label _=>some .skip
  | .region _ ops draw=>(cRegion P nt ops draw).map .region
  | .seq a b=>match cCode a,cCode b with
    | some a,some b=>some (match Ov.over (.seq a b) with
      | some t=>.over t
      | none=>.seq a b)
    | _,_=>none
  | .cond c a b=>match cOpd P nt c,cCode a,cCode b with
    | some c,some a,some b=>some (.cond c a b)
    | _,_,_=>none
  | .block id b=>(cCode b).map (.block id)
  | .loop b=>(cCode b).map .loop
  | .rangeFunc f ps as bd=>match cOpd P nt f,cCode as,cCode bd with
    | some f,some as,some bd=>if ps.toList.all (·<nt) then some (.rangeFunc f (ps.toList.map Pos.slot) as bd) else none
    | _,_,_=>none
  | .exit id=>some (.exit id)
  | .ret=>some .ret
  | .scope b=>cCode b
  | .goto _ | .refuse _=>none
def cRes:ResultVar→Option ARes
  | .tmp t=>if t<nt then some (.tmp (Pos.slot t)) else none
  | .cell a t=>match aggOf P t,szOf P t with
    | some g,some s=>if a<nt then some (.cell (Pos.slot a) g (if g then s else 1)) else none
    | _,_=>none
def cFunc (f:Func):Option AFunc:=do
  let b ← f.body
  let b ← cCode P f.ntmps b
  let r ← f.results.toList.mapM (cRes P f.ntmps)
  return .code f.ntmps r b
end Go.Abs
namespace Go.Abs
structure Names where
  f:Pos→Option (Nat × Nat)
  k:Nat→Nat × Nat
instance:CoeFun Names fun _=>Pos→Option (Nat × Nat):=⟨Names.f⟩
def Ext (ρ ρ':Names):Prop:=∀ i x,ρ i=some x→ρ' i=some x∧ρ'.k x.1=ρ.k x.1
theorem Ext.refl (ρ:Names):Ext ρ ρ:=fun _ _ h=>⟨h,rfl⟩
theorem Ext.trans {a b c:Names} (h:Ext a b) (k:Ext b c):Ext a c:=fun i x e=>⟨(k i x (h i x e).1).1,(k i x (h i x e).1).2.trans (h i x e).2⟩
mutual
def VR (ρ:Names):AV→Value→Prop
  | .tuple l,.tuple cs=>VRs ρ l cs.toList
  | .agg l,.agg cs=>VRs ρ l cs.toList
  | .bool a,.bool b=>a=b
  | .int k n,.int k' m=>k=kc k'∧n=m
  | .str s,.string t=>t.data.toList.map UInt8.toNat=s
  | .ptr i o,.pointer (some a)=>∃ b x,ρ i=some (b,x)∧a=⟨b,x+o,none⟩
  | .nilptr,.pointer none=>True
  | .slice i o len cap ex,.slice (some a) n c=>n=len∧len≤cap∧cap≤c∧(ex=true→c=cap)∧∃ b x,ρ i=some (b,x)∧(c≠0→a=⟨b,x+o,none⟩)∧(ex=false→x+o+c*(ρ.k b).2≤(ρ.k b).1)
  | .nilslice,.slice none 0 0=>True
  | .map i,.map (some b)=>ρ i=some (b,0)
  | .nilmap,.map none=>True
  | .func f a b,.func (.func g) c d=>f=g∧VRs ρ a c.toList∧VRs ρ b d.toList
  | .yield i,.func (.yield b) c d=>ρ i=some (b,0)∧c=#[]∧d=#[]
  | .nilFunc,.nilFunc=>True
  | .iface t v,.iface u c=>t=u∧VR ρ v c
  | .nilIface,.nilIface=>True
  | .junk,_=>True
  | _,_=>False
def VRs (ρ:Names):List AV→List Value→Prop
  | [],[]=>True
  | v::l,c::m=>VR ρ v c∧VRs ρ l m
  | _,_=>False
end
mutual
theorem VR.mono {ρ ρ':Names} (h:Ext ρ ρ'):∀ (v:AV) (c:Value),VR ρ v c→VR ρ' v c
  | .tuple l,.tuple cs,k=>by simp only [VR] at k ⊢;exact VRs.mono h l cs.toList k
  | .agg l,.agg cs,k=>by simp only [VR] at k ⊢;exact VRs.mono h l cs.toList k
  | .bool _,.bool _,k=>by simpa only [VR] using k
  | .int _ _,.int _ _,k=>by simpa only [VR] using k
  | .str _,.string _,k=>by simpa only [VR] using k
  | .ptr i o,.pointer (some a),k=>by
    simp only [VR] at k ⊢;obtain ⟨b,x,e,rfl⟩:=k;exact ⟨b,x,(h _ _ e).1,rfl⟩
  | .nilptr,.pointer none,_=>by simp only [VR]
  | .slice i o len cap ex,.slice (some a) n c,k=>by
    simp only [VR] at k ⊢;obtain ⟨h1,h2,h3,h4,b,x,e,h5,h6⟩:=k;exact ⟨h1,h2,h3,h4,b,x,(h _ _ e).1,h5,by rw [show ρ'.k b=ρ.k b from (h _ _ e).2];exact h6⟩
  | .nilslice,.slice none 0 0,_=>by simp only [VR]
  | .map i,.map (some b),k=>by simp only [VR] at k ⊢;exact (h _ _ k).1
  | .nilmap,.map none,_=>by simp only [VR]
  | .func f a b,.func (.func g) c d,k=>by
    simp only [VR] at k ⊢;exact ⟨k.1,VRs.mono h a c.toList k.2.1,VRs.mono h b d.toList k.2.2⟩
  | .yield i,.func (.yield b) c d,k=>by simp only [VR] at k ⊢;exact ⟨(h _ _ k.1).1,k.2⟩
  | .nilFunc,.nilFunc,_=>by simp only [VR]
  | .iface t v,.iface u c,k=>by simp only [VR] at k ⊢;exact ⟨k.1,VR.mono h v c k.2⟩
  | .nilIface,.nilIface,_=>by simp only [VR]
  | .junk,_,_=>by simp only [VR]
theorem VRs.mono {ρ ρ':Names} (h:Ext ρ ρ'):∀ (l:List AV) (m:List Value),VRs ρ l m→VRs ρ' l m
  | [],[],_=>by simp only [VRs]
  | v::l,c::m,k=>by simp only [VRs] at k ⊢;exact ⟨VR.mono h v c k.1,VRs.mono h l m k.2⟩
end
theorem VRs.length {ρ:Names}:∀ {l:List AV} {m:List Value},VRs ρ l m→l.length=m.length
  | [],[],_=>rfl
  | _::_,_::_,k=>by simp only [VRs] at k;simp [VRs.length k.2]
  | [],_::_,k=>by simp [VRs] at k
  | _::_,[],k=>by simp [VRs] at k
theorem VRs.append {ρ:Names}:∀ {l:List AV} {m:List Value} {l':List AV} {m':List Value},VRs ρ l m→VRs ρ l' m'→VRs ρ (l++l') (m++m')
  | [],[],_,_,_,k'=>by simpa using k'
  | _::_,_::_,_,_,k,k'=>by simp only [VRs,List.cons_append] at k ⊢;exact ⟨k.1,VRs.append k.2 k'⟩
  | [],_::_,_,_,k,_=>by simp [VRs] at k
  | _::_,[],_,_,k,_=>by simp [VRs] at k
theorem VRs.get {ρ:Names}:∀ {l:List AV} {m:List Value},VRs ρ l m→∀ (i:Nat) (v:AV),l[i]?=some v→∃ c,m[i]?=some c∧VR ρ v c
  | [],[],_,i,v,h=>by simp at h
  | a::l,c::m,k,0,v,h=>by simp only [VRs] at k;simp at h;subst h;exact ⟨c,by simp,k.1⟩
  | a::l,c::m,k,i+1,v,h=>by simp only [VRs] at k;simp at h;simpa using VRs.get k.2 i v h
  | [],_::_,k,_,_,_=>by simp [VRs] at k
  | _::_,[],k,_,_,_=>by simp [VRs] at k
theorem VRs.of_get {ρ:Names}:∀ {l:List AV} {m:List Value},l.length=m.length→(∀ (i:Nat) (v:AV) (c:Value),l[i]?=some v→m[i]?=some c→VR ρ v c)→VRs ρ l m
  | [],[],_,_=>by simp [VRs]
  | a::l,c::m,h,k=>by
    simp only [VRs]
    exact ⟨k 0 a c (by simp) (by simp),VRs.of_get (by simpa using h) fun i v c h1 h2=>k (i+1) v c (by simpa using h1) (by simpa using h2)⟩
  | [],_::_,h,_=>by simp at h
  | _::_,[],h,_=>by simp at h
theorem VRs.take {ρ:Names}:∀ {l:List AV} {m:List Value} (n:Nat),VRs ρ l m→VRs ρ (l.take n) (m.take n)
  | [],[],n,_=>by simp [VRs]
  | _::_,_::_,0,_=>by simp [VRs]
  | _::_,_::_,n+1,k=>by simp only [VRs,List.take_succ_cons] at k ⊢;exact ⟨k.1,VRs.take n k.2⟩
  | [],_::_,_,k=>by simp [VRs] at k
  | _::_,[],_,k=>by simp [VRs] at k
theorem VRs.drop {ρ:Names}:∀ {l:List AV} {m:List Value} (n:Nat),VRs ρ l m→VRs ρ (l.drop n) (m.drop n)
  | [],[],n,_=>by simp [VRs]
  | _::_,_::_,0,k=>by simpa using k
  | _::_,_::_,n+1,k=>by simp only [VRs,List.drop_succ_cons] at k ⊢;exact VRs.drop n k.2
  | [],_::_,_,k=>by simp [VRs] at k
  | _::_,[],_,k=>by simp [VRs] at k
theorem VR.cells {ρ:Names} {v:AV} {c:Value} (h:VR ρ v c) (hd:v.defd=true):VRs ρ v.cells c.cells.toList:=by
  cases v<;>cases c<;>first | (simp [VR] at h;done) | (simp [AV.defd] at hd;done) | (simp only [AV.cells,Value.cells,VRs,VR] at h ⊢;first | exact h | exact ⟨h,trivial⟩)
theorem VR.oneCell {ρ:Names} {v:AV} {c:Value} (h:VR ρ v c) (k:v.oneCell=true):(∀ l,c≠.agg l)∧∀ l,c≠.tuple l:=by
  cases v<;>cases c<;>simp_all [VR,AV.oneCell]
namespace Tree
variable {α:Type} (d:α)
theorem get_set (x:α):∀ (p q:Pos) (t:Tree α),(t.set d q x).get d p=if p=q then x else t.get d p
  | .xH,.xH,t=>by simp [set,get,val]
  | .xH,.xO q,t=>by cases t<;>simp [set,get,val]
  | .xH,.xI q,t=>by cases t<;>simp [set,get,val]
  | .xO p,.xH,t=>by cases t<;>simp [set,get,left]
  | .xI p,.xH,t=>by cases t<;>simp [set,get,right]
  | .xO p,.xO q,t=>by simp [set,get,left,get_set x p q]
  | .xI p,.xI q,t=>by simp [set,get,right,get_set x p q]
  | .xO p,.xI q,t=>by cases t<;>simp [set,get,left]
  | .xI p,.xO q,t=>by cases t<;>simp [set,get,right]
theorem getN_leaf (n:Nat):(Tree.leaf:Tree α).getN d n=d:=by cases n<;>rfl
theorem getN_root (t:Tree α):t.getN d 0=t.val d:=by cases t<;>rfl
theorem getN_left (t:Tree α) (m:Nat) (h:m % 2=0):t.getN d (m+1)=t.left.getN d (m / 2):=by
  cases t with
  | leaf=>simp [getN,left,getN_leaf]
  | node l v r=>simp [getN,left,h]
theorem getN_right (t:Tree α) (m:Nat) (h:¬ m % 2=0):t.getN d (m+1)=t.right.getN d (m / 2):=by
  cases t with
  | leaf=>simp [getN,right,getN_leaf]
  | node l v r=>simp [getN,right,h]
theorem getN_setN (x:α):∀ (f n:Nat) (t:Tree α) (j:Nat),n≤f→(t.setN d f n x).getN d j=if j=n then x else t.getN d j
  | f,0,t,j,_=>by
    rw [show t.setN d f 0 x=.node t.left x t.right by cases f<;>rfl]
    cases j with
    | zero=>simp [getN]
    | succ m =>
      simp only [getN,Nat.succ_ne_zero,if_false]
      split
      · rename_i h;rw [getN_left d t m h]
      · rename_i h;rw [getN_right d t m h]
  | 0,n+1,_,_,h=>by omega
  | f+1,n+1,t,j,h=>by
    by_cases hn:n % 2=0
    · rw [show t.setN d (f+1) (n+1) x=.node (setN d f (n / 2) x t.left) (t.val d) t.right by simp [setN,hn]]
      cases j with
      | zero=>simp [getN,getN_root]
      | succ m =>
        by_cases hm:m % 2=0
        · rw [getN_left d _ m hm,left,getN_setN x f (n / 2) t.left (m / 2) (by omega),getN_left d t m hm]
          by_cases e:m=n
          · simp [e]
          · rw [if_neg (by omega),if_neg (by omega)]
        · rw [getN_right d _ m hm,right,getN_right d t m hm,if_neg (by omega)]
    · rw [show t.setN d (f+1) (n+1) x=.node t.left (t.val d) (setN d f (n / 2) x t.right) by simp [setN,hn]]
      cases j with
      | zero=>simp [getN,getN_root]
      | succ m =>
        by_cases hm:m % 2=0
        · rw [getN_left d _ m hm,left,getN_left d t m hm,if_neg (by omega)]
        · rw [getN_right d _ m hm,right,getN_setN x f (n / 2) t.right (m / 2) (by omega),getN_right d t m hm]
          by_cases e:m=n
          · simp [e]
          · rw [if_neg (by omega),if_neg (by omega)]
end Tree
def Pos.idx:Pos→Nat
  | .xH=>1
  | .xO p=>2*p.idx
  | .xI p=>2*p.idx+1
theorem Pos.idx_pos:∀ p:Pos,0<p.idx
  | .xH=>by simp [idx]
  | .xO p=>by have:=p.idx_pos;simp only [idx];omega
  | .xI p=>by have:=p.idx_pos;simp only [idx];omega
theorem Pos.idx_inj:∀ {p q:Pos},p.idx=q.idx→p=q
  | .xH,.xH,_=>rfl
  | .xH,.xO q,h=>by have:=q.idx_pos;simp only [idx] at h;omega
  | .xH,.xI q,h=>by have:=q.idx_pos;simp only [idx] at h;omega
  | .xO p,.xH,h=>by have:=p.idx_pos;simp only [idx] at h;omega
  | .xI p,.xH,h=>by have:=p.idx_pos;simp only [idx] at h;omega
  | .xO p,.xO q,h=>by simp only [idx] at h;rw [Pos.idx_inj (p:=p) (q:=q) (by omega)]
  | .xI p,.xI q,h=>by simp only [idx] at h;rw [Pos.idx_inj (p:=p) (q:=q) (by omega)]
  | .xO p,.xI q,h=>by simp only [idx] at h;omega
  | .xI p,.xO q,h=>by simp only [idx] at h;omega
theorem Pos.idx_succ:∀ p:Pos,p.succ.idx=p.idx+1
  | .xH=>rfl
  | .xO p=>rfl
  | .xI p=>by simp only [succ,idx,Pos.idx_succ p];omega
theorem Pos.idx_slot:∀ t,(Pos.slot t).idx=t+1
  | 0=>rfl
  | t+1=>by rw [slot,idx_succ,idx_slot t]
theorem Pos.slot_inj {a b:Nat} (h:Pos.slot a=Pos.slot b):a=b:=by
  have:=congrArg Pos.idx h;simpa [idx_slot] using this
theorem Pos.beq_iff:∀ {p q:Pos},Pos.beq p q=true↔p=q
  | .xH,.xH=>by simp [beq]
  | .xH,.xO q=>by simp [beq]
  | .xH,.xI q=>by simp [beq]
  | .xO p,.xH=>by simp [beq]
  | .xI p,.xH=>by simp [beq]
  | .xO p,.xO q=>by simp [beq,Pos.beq_iff (p:=p) (q:=q)]
  | .xI p,.xI q=>by simp [beq,Pos.beq_iff (p:=p) (q:=q)]
  | .xO p,.xI q=>by simp [beq]
  | .xI p,.xO q=>by simp [beq]
def ERel (ρ:Names) (nt:Nat) (env:Tree AV) (tmps:Array Value):Prop :=
  tmps.size=nt∧∀ t,t<nt→VR ρ (env.get .undef (Pos.slot t)) (tmps.getD t undef)
theorem ERel.mono {ρ ρ':Names} {nt:Nat} {env:Tree AV} {tmps:Array Value} (h:Ext ρ ρ') (k:ERel ρ nt env tmps):ERel ρ' nt env tmps :=
  ⟨k.1,fun t ht=>VR.mono h _ _ (k.2 t ht)⟩
theorem ERel.set {ρ:Names} {nt:Nat} {env:Tree AV} {tmps:Array Value} {v:AV} {c:Value} {d:Nat} (k:ERel ρ nt env tmps) (hv:VR ρ v c) :
    ERel ρ nt (env.set .undef (Pos.slot d) v) (tmps.setIfInBounds d c):=by
  refine ⟨by simp [k.1],fun t ht=>?_⟩
  rw [Tree.get_set]
  by_cases e:t=d
  · subst e
    have:t<tmps.size:=by rw [k.1];exact ht
    simpa [Array.getD,this] using hv
  · have e':Pos.slot t≠Pos.slot d:=fun h=>e (Pos.slot_inj h)
    rw [if_neg e']
    have:=k.2 t ht
    have hs:t<tmps.size:=by rw [k.1];exact ht
    have h2:(tmps.setIfInBounds d c).getD t undef=tmps.getD t undef:=by
      simp [Array.getD,hs,Ne.symm e]
    rw [h2];exact this
theorem VR.undef (ρ:Names):VR ρ AV.undef Go.undef:=by simp [VR,AV.undef,Go.undef,VRs]
end Go.Abs
