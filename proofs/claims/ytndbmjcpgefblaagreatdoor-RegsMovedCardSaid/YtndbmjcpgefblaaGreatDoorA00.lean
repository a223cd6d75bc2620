/- A part of the proof (an abstract machine, walks): no statement of its own, no conditions. -/
import GoSem.Step
set_option linter.all false
namespace Go.Abs
inductive Pos where
  | xH | xO (p:Pos) | xI (p:Pos)
  deriving DecidableEq
def Pos.succ:Pos→Pos
  | .xH=>.xO .xH
  | .xO p=>.xI p
  | .xI p=>.xO p.succ
def Pos.slot:Nat→Pos
  | 0=>.xH
  | t+1=>(Pos.slot t).succ
inductive Tree (α:Type) where
  | leaf
  | node (l:Tree α) (v:α) (r:Tree α)
namespace Tree
variable {α:Type}
def left:Tree α→Tree α
  | .leaf=>.leaf
  | .node l _ _=>l
def right:Tree α→Tree α
  | .leaf=>.leaf
  | .node _ _ r=>r
def val (d:α):Tree α→α
  | .leaf=>d
  | .node _ v _=>v
def get (d:α):Pos→Tree α→α
  | .xH,t=>t.val d
  | .xO p,t=>get d p t.left
  | .xI p,t=>get d p t.right
def set (d:α):Pos→α→Tree α→Tree α
  | .xH,x,t=>.node t.left x t.right
  | .xO p,x,t=>.node (set d p x t.left) (t.val d) t.right
  | .xI p,x,t=>.node t.left (t.val d) (set d p x t.right)
def getN (d:α):Tree α→Nat→α
  | .leaf,_=>d
  | .node _ v _,0=>v
  | .node l _ r,m+1=>if m % 2=0 then getN d l (m / 2) else getN d r (m / 2)
def setN (d:α):(fuel:Nat)→Nat→α→Tree α→Tree α
  | _,0,x,t=>.node t.left x t.right
  | 0,_+1,_,t=>t
  | f+1,m+1,x,t =>
    if m % 2=0 then .node (setN d f (m / 2) x t.left) (t.val d) t.right
    else .node t.left (t.val d) (setN d f (m / 2) x t.right)
end Tree
inductive AV where
  | tuple (l:List AV)
  | agg (l:List AV)
  | bool (b:Bool)
  | int (k:Nat) (n:Int)
  | str (s:List Nat)
  | ptr (id:Pos) (off:Nat)
  | nilptr
  | slice (id:Pos) (off len cap:Nat) (exact:Bool)
  | nilslice
  | map (id:Pos)
  | nilmap
  | func (f:Nat) (first captured:List AV)
  | yield (id:Pos)
  | nilFunc
  | iface (t:Nat) (v:AV)
  | nilIface
  | junk
  deriving Inhabited
abbrev AV.undef:AV:=.tuple []
def AV.cells:AV→List AV
  | .agg l=>l
  | v=>[v]
def AV.oneCell:AV→Bool
  | .agg _ | .tuple _ | .junk=>false
  | _=>true
def AV.defd:AV→Bool
  | .junk=>false
  | _=>true
def kc:IntKind→Nat
  | .i8=>0 | .i16=>1 | .i32=>2 | .i64=>3 | .u8=>4 | .u16=>5 | .u32=>6 | .u64=>7
def ck:Nat→IntKind
  | 0=>.i8 | 1=>.i16 | 2=>.i32 | 3=>.i64 | 4=>.u8 | 5=>.u16 | 6=>.u32 | _=>.u64
inductive Opd where
  | t (p:Pos)
  | c (v:AV)
inductive EqD where
  | bool | int | str | ptr | slice | map | func
  | iface (const empty:Bool)
  | parts (l:List (Nat × Nat × Bool × EqD))
inductive AOp where
  | mov (x:Opd)
  | pick (c a b:Opd)
  | box (elem:Nat) (x:Opd)
  | alloc (elem:Nat) (zs:List AV)
  | build (zs:List AV) (parts:List (Nat × Nat × Opd))
  | buildSlice (elem len:Nat) (zs:List AV) (parts:List (Nat × Nat × Opd))
  | load1 (a:Opd)
  | loadN (n:Nat) (a:Opd)
  | store (n:Nat) (a x:Opd)
  | nilCheck (x:Opd)
  | arith (op:BinOp) (k:Nat) (x y:Opd)
  | shift (op:BinOp) (x y:Opd)
  | strOp (op:BinOp) (x y:Opd)
  | eq (neg:Bool) (d:EqD) (x y:Opd)
  | unary (op:UnOp) (x:Opd)
  | convInt (k:Nat) (x:Opd)
  | convBytes (elem:Nat) (x:Opd)
  | convStr (x:Opd)
  | idStr (x:Opd)
  | mkIface (t:Nat) (x:Opd)
  | mkFunc (f:Nat) (first captured:List Opd)
  | mkMap
  | mkSlice (elem bytes size:Nat) (zs:List AV) (len cap:Opd)
  | sliceArr (n size:Nat) (x:Opd) (lo hi mx:Option Opd)
  | sliceSl (elem size:Nat) (x:Opd) (lo hi mx:Option Opd)
  | sliceStr (x:Opd) (lo hi:Option Opd)
  | addOff (off:Nat) (x:Opd)
  | part (agg:Bool) (off size:Nat) (x:Opd)
  | idxArr (n size:Nat) (x i:Opd)
  | idxSl (size:Nat) (x i:Opd)
  | idxAgg (agg:Bool) (n size:Nat) (x i:Opd)
  | idxStr (x i:Opd)
  | lookup (key:EqD) (zero:AV) (ok:Bool) (m k:Opd)
  | mapUpd (key:EqD) (m k v:Opd)
  | mapEntry (key:EqD) (zero:AV) (m k:Opd)
  | entryStore (m s v:Opd)
  | rangeStr (x:Opd)
  | nextStr (it:Opd)
  | rangeMap (x:Opd)
  | nextMap (it:Opd)
  | entryMap (it:Opd)
  | stop
  | typeAssert (t:Nat) (zero:AV) (ok:Bool) (x:Opd)
  | extract (x:Opd) (i:Nat)
  | lenC (n:Nat)
  | lenStr (x:Opd)
  | lenSl (x:Opd)
  | lenMap (x:Opd)
  | cap (x:Opd)
  | append (elem bytes size:Nat) (zs:List AV) (ofMake:Bool) (s x:Opd)
  | copy (size:Nat) (d s:Opd)
  | clearSl (zs:List AV) (x:Opd)
  | clearMap (x:Opd)
  | delete (key:EqD) (m k:Opd)
  | minmax (isMax:Bool) (l:List Opd)
  | call (f:Opd) (args:List Opd)
structure ARe where
  dst:Pos
  op:AOp
  guard:Option (Pos × Bool)
structure AOper where
  dst:Option Pos
  op:AOp
  guard:Option (Pos × Bool)
  hide:List Pos
  re:List ARe
inductive ACode where
  | skip
  | region (l:List AOper)
  | seq (a b:ACode)
  | cond (c:Opd) (a b:ACode)
  | block (id:Nat) (b:ACode)
  | loop (b:ACode)
  | rangeFunc (f:Opd) (params:List Pos) (assign body:ACode)
  | exit (id:Nat)
  | ret
  | over (t:Nat)
inductive AJump where
  | none
  | exit (id:Nat)
  | ret
inductive AState where
  | ready | busy | done | exhausted
structure AEnt where
  key:AV
  val:AV
  born:Nat
inductive AObj where
  | none
  | cells (c:Tree AV) (n:Nat) (elem:Nat) (rw:Bool) (par:List Pos) (fz:Nat)
  | map (es:List AEnt) (clock:Nat)
  | umap (es:List AEnt)
  | strIter (s:List Nat) (rest:List Nat) (pos:Nat)
  | loop (st:AState) (pend:AJump) (fn:Nat) (env:Tree AV) (params:List Pos) (assign body:ACode) (defers:Pos)
  | deferred (taken:Bool)
  | mapIter (m:Option Pos) (since:Nat) (seen:List Nat) (last:Nat)
  deriving Inhabited
structure Heap where
  t:Tree AObj
  next:Pos
def Heap.get (H:Heap) (i:Pos):AObj:=H.t.get .none i
def Heap.set (H:Heap) (i:Pos) (o:AObj):Heap:=⟨H.t.set .none i o,H.next⟩
def Heap.new (H:Heap) (o:AObj):Heap:=⟨H.t.set .none H.next o,H.next.succ⟩
def Heap.drops (H:Heap):List Pos→Heap
  | []=>H
  | i::l=>(H.set i .none).drops l
inductive ARes where
  | tmp (p:Pos)
  | cell (p:Pos) (agg:Bool) (n:Nat)
inductive AFunc where
  | none
  | code (nt:Nat) (results:List ARes) (body:ACode)
  | prim (f:List AV→Heap→Option (AV × Heap))
  | over (f:Tree AV→Heap→Option (Tree AV × Heap))
end Go.Abs
namespace Go.Abs
section
variable {α:Type} (fail:α) (ask:Nat→(Nat→α)→α)
def gv (env:Tree AV) (x:Opd):AV :=
  match x with
  | .t p=>env.get .undef p
  | .c v=>v
def fcI (n:Int) (k:Int→α):α:=k n
def readCells (c:Tree AV) (n off:Nat):Nat→Option (List AV)
  | 0=>some []
  | m+1=>if off<n then (match readCells c n (off+1) m with | some l=>some (c.getN .undef off::l) | none=>none) else none
def writeCells (c:Tree AV) (off:Nat):List AV→Tree AV
  | []=>c
  | v::l=>writeCells (c.setN .undef off off v) (off+1) l
def mkCells (l:List AV):Tree AV:=writeCells .leaf 0 l
def readAt (H:Heap) (id:Pos) (off m:Nat):Option (List AV) :=
  match H.get id with
  | .cells c n _ _ _ _=>readCells c n off m
  | _=>none
def allOne:List AV→Bool
  | []=>true
  | v::l=>v.oneCell&&allOne l
def writeAt (H:Heap) (id:Pos) (off:Nat) (l:List AV):Option Heap :=
  match H.get id with
  | .cells c n e true par fz =>
    if decide (fz≤off)&&decide (off+l.length≤n)&&allOne l then some ((H.drops par).set id (.cells (writeCells c off l) n e true [] fz)) else none
  | _=>none
def beqs:List Nat→List Nat→Bool
  | [],[]=>true
  | a::l,b::m=>Nat.beq a b&&beqs l m
  | _,_=>false
def lts:List Nat→List Nat→Bool
  | _,[]=>false
  | [],_::_=>true
  | a::l,b::m=>Nat.blt a b||(Nat.beq a b&&lts l m)
def Pos.beq:Pos→Pos→Bool
  | .xH,.xH=>true
  | .xO p,.xO q=>Pos.beq p q
  | .xI p,.xI q=>Pos.beq p q
  | _,_=>false
def ieq:Int→Int→Bool
  | .ofNat a,.ofNat b=>Nat.beq a b
  | .negSucc a,.negSucc b=>Nat.beq a b
  | _,_=>false
def ilt:Int→Int→Bool
  | .ofNat a,.ofNat b=>Nat.blt a b
  | .negSucc a,.negSucc b=>Nat.blt b a
  | .negSucc _,.ofNat _=>true
  | .ofNat _,.negSucc _=>false
def partOf (agg:Bool) (l:List AV) (off size:Nat):Option AV :=
  if agg then some (.agg ((l.drop off).take size)) else (l.drop off).head?
def eqv:(fuel:Nat)→EqD→AV→AV→Option Bool
  | _,.bool,.bool a,.bool b=>some (a==b)
  | _,.int,.int k a,.int k' b=>if k=k' then some (ieq a b) else none
  | _,.str,.str a,.str b=>some (beqs a b)
  | _,.ptr,.nilptr,.nilptr=>some true
  | _,.ptr,.nilptr,.ptr _ _=>some false
  | _,.ptr,.ptr _ _,.nilptr=>some false
  | _,.ptr,.ptr a i,.ptr b j=>if Pos.beq a b then some (Nat.beq i j) else none
  | _,.slice,.nilslice,.nilslice=>some true
  | _,.slice,.nilslice,.slice ..=>some false
  | _,.slice,.slice ..,.nilslice=>some false
  | _,.map,.nilmap,.nilmap=>some true
  | _,.map,.nilmap,.map _=>some false
  | _,.map,.map _,.nilmap=>some false
  | _,.func,.nilFunc,.nilFunc=>some true
  | _,.func,.nilFunc,.func ..=>some false
  | _,.func,.func ..,.nilFunc=>some false
  | _,.func,.nilFunc,.yield _=>some false
  | _,.func,.yield _,.nilFunc=>some false
  | _,.iface const empty,.nilIface,.nilIface=>if const||empty then some true else none
  | _,.iface _ _,.nilIface,.iface _ _=>some false
  | _,.iface _ _,.iface _ _,.nilIface=>some false
  | _,.iface _ _,.iface t _,.iface u _=>if Nat.beq t u then none else some false
  | f+1,.parts ds,.agg xs,.agg ys=>go f xs ys ds
  | _,_,_,_=>none
where
  go:(fuel:Nat)→List AV→List AV→List (Nat × Nat × Bool × EqD)→Option Bool
    | _,_,_,[]=>some true
    | 0,_,_,_::_=>none
    | f+1,xs,ys,(off,size,agg,d)::ds =>
      match partOf agg xs off size,partOf agg ys off size with
      | some x,some y =>
        match eqv f d x y with
        | some true=>go f xs ys ds
        | some false=>some false
        | none=>none
      | _,_=>none
def wrapN (k:Nat) (n:Int):Int:=(ck k).wrap n
def wrapF (k:Nat) (n:Int):Int :=
  match k,n with
  | 3,.ofNat m=>if Nat.blt m 9223372036854775808 then .ofNat m else wrapN 3 (.ofNat m)
  | 3,.negSucc m=>if Nat.blt m 9223372036854775808 then .negSucc m else wrapN 3 (.negSucc m)
  | 4,.ofNat m=>if Nat.blt m 256 then .ofNat m else wrapN 4 (.ofNat m)
  | k,n=>wrapN k n
def arithV (op:BinOp) (k:Nat) (a b:Int):Option AV :=
  match op with
  | .add=>some (.int k (wrapF k (a+b)))
  | .sub=>some (.int k (wrapF k (a-b)))
  | .mul=>some (.int k (wrapF k (a*b)))
  | .quo=>if b=0 then none else some (.int k (wrapF k (a.tdiv b)))
  | .rem=>if b=0 then none else some (.int k (a.tmod b))
  | .and=>some (.int k (wrapN k (BitVec.ofInt (ck k).bits a &&& BitVec.ofInt (ck k).bits b).toNat))
  | .or=>some (.int k (wrapN k (BitVec.ofInt (ck k).bits a ||| BitVec.ofInt (ck k).bits b).toNat))
  | .xor=>some (.int k (wrapN k (BitVec.ofInt (ck k).bits a ^^^ BitVec.ofInt (ck k).bits b).toNat))
  | .andNot=>some (.int k (wrapN k (BitVec.ofInt (ck k).bits a &&& ~~~ BitVec.ofInt (ck k).bits b).toNat))
  | .eql=>some (.bool (ieq a b))
  | .neq=>some (.bool (!ieq a b))
  | .lss=>some (.bool (ilt a b))
  | .leq=>some (.bool (!ilt b a))
  | .gtr=>some (.bool (ilt b a))
  | .geq=>some (.bool (!ilt a b))
  | _=>none
def arith2 (op:BinOp) (k:Nat) (x y:AV):Option AV :=
  match x,y with
  | .int j a,.int l b=>if Nat.beq j k&&Nat.beq l k then arithV op k a b else none
  | _,_=>none
def shiftV (op:BinOp) (x y:AV):Option AV :=
  match x,y with
  | .int k a,.int _ (.ofNat b) =>
    let n:=min b (ck k).bits
    match op with
    | .shl=>some (.int k (wrapF k (a*2 ^ n)))
    | .shr=>some (.int k (a.fdiv (2 ^ n)))
    | _=>none
  | _,_=>none
def strV (op:BinOp) (x y:AV):Option AV :=
  match x,y with
  | .str a,.str b =>
    match op with
    | .add=>if a.length+b.length<4294967296 then some (.str (a++b)) else none
    | .eql=>some (.bool (beqs a b))
    | .neq=>some (.bool (!beqs a b))
    | .lss=>some (.bool (lts a b))
    | .leq=>some (.bool (!lts b a))
    | .gtr=>some (.bool (lts b a))
    | .geq=>some (.bool (!lts a b))
    | _=>none
  | _,_=>none
def unV (op:UnOp) (x:AV):Option AV :=
  match op,x with
  | .neg,.int k n=>some (.int k (wrapF k (0-n)))
  | .xor,.int k n=>arithV .xor k (if (ck k).signed then -1 else (ck k).max) n
  | .not,.bool b=>some (.bool !b)
  | _,_=>none
def layAt (l:List AV):(off:Nat)→List AV→Option (List AV)
  | 0,[]=>some l
  | 0,v::vs=>match l with
    | []=>none
    | _::l=>match layAt l 0 vs with | some l'=>some (v::l') | none=>none
  | off+1,vs=>match l with
    | []=>none
    | x::l=>match layAt l off vs with | some l'=>some (x::l') | none=>none
def layAll (env:Tree AV) (l:List AV):List (Nat × Nat × Opd)→Option (List AV)
  | []=>some l
  | (off,size,x)::rest =>
    let vs:=(gv env x).cells
    if (gv env x).defd&&decide (vs.length=size) then (match layAt l off vs with | some l'=>layAll env l' rest | none=>none) else none
def reps (zs:List AV):Nat→List AV
  | 0=>[]
  | n+1=>zs++reps zs n
def bound (x:AV) (y:Nat):Option Nat :=
  match x with
  | .int _ (.ofNat i)=>if Nat.ble i y then some i else none
  | _=>none
def boundO (env:Tree AV) (x:Option Opd) (d y:Nat):Option Nat :=
  match x with
  | some x=>bound (gv env x) y
  | none=>some d
def findKey (d:EqD) (k:AV):List AEnt→Nat→Option (Option (Nat × AV))
  | [],_=>some none
  | e::es,i =>
    match eqv 64 d k e.key with
    | some true=>some (some (i,e.val))
    | some false=>findKey d k es (i+1)
    | none=>none
def simpleKey:EqD→Bool
  | .int | .str | .bool=>true
  | _=>false
def findU (d:EqD) (k:AV) (es:List AEnt):Option (Option AV):=if simpleKey d then go es else none
where
  go:List AEnt→Option (Option AV)
    | []=>some none
    | e::es=>match eqv 64 d k e.key,go es with
      | some true,some none=>some (some e.val)
      | some false,some r=>some r
      | _,_=>none
def isKey (d:EqD) (k:AV) (e:AEnt):Bool :=
  match eqv 64 d k e.key with
  | some b=>b
  | none=>false
def updU (d:EqD) (k v:AV):List AEnt→List AEnt
  | []=>[]
  | e::es=>(if isKey d k e then { e with key:=k,val:=v } else e)::updU d k v es
def delU (d:EqD) (k:AV):List AEnt→List AEnt
  | []=>[]
  | e::es=>if isKey d k e then delU d k es else e::delU d k es
def setVal (v:AV) (k:AV):List AEnt→Nat→List AEnt
  | [],_=>[]
  | e::es,0=>{ e with key:=k,val:=v }::es
  | e::es,i+1=>e::setVal v k es i
def eraseAt:List AEnt→Nat→List AEnt
  | [],_=>[]
  | _::es,0=>es
  | e::es,i+1=>e::eraseAt es i
def bornAt:List AEnt→Nat→Nat
  | [],_=>0
  | e::_,0=>e.born
  | _::es,i+1=>bornAt es i
def findBorn (b:Nat):List AEnt→Nat→Option Nat
  | [],_=>none
  | e::es,i=>if Nat.beq e.born b then some i else findBorn b es (i+1)
def source (H:Heap) (size:Nat) (x:AV):Option (Nat × List AV) :=
  match x with
  | .nilslice=>some (0,[])
  | .slice id off len _ _=>match readAt H id off (len*size) with | some l=>some (len,l) | none=>none
  | .str s=>if Nat.beq size 1 then some (s.length,s.map fun n=>.int 4 (.ofNat n)) else none
  | _=>none
def small (n:Nat):Bool:=Nat.ble n 70368744177664
def appendV (elem bytes size:Nat) (H:Heap) (s:AV) (n:Nat) (l:List AV):Option (AV × Heap) :=
  if !allOne l then none else
  match s with
  | .nilslice =>
    if Nat.beq n 0 then some (.nilslice,H)
    else if small (n*bytes)&&small n then some (.slice H.next 0 n n false,H.new (.cells (mkCells l) (n*size) elem true [] 0)) else none
  | .slice id off len cap exact =>
    let need:=len+n
    if Nat.ble need cap then
      if Nat.beq n 0 then some (.slice id off need cap exact,H) else
      match writeAt H id (off+len*size) l with
      | some H'=>some (.slice id off need cap exact,H')
      | none=>none
    else if !(small (need*bytes)&&small need) then none else
      match H.get id with
      | .cells c m e rw par fz =>
        match readCells c m off (len*size) with
        | none=>none
        | some old =>
          if exact then some (.slice H.next 0 need need false,H.new (.cells (mkCells (old++l)) (need*size) elem true [] 0))
          else if rw&&Nat.beq len cap&&Nat.beq (off+cap*size) m&&Nat.beq e elem&&Nat.ble fz m then
            some (.slice H.next 0 need need false,(H.set id (.cells c m e false par fz)).new (.cells (mkCells (old++l)) (need*size) elem true (id::par) (fz-off)))
          else none
      | _=>none
  | _=>none
def loadV (H:Heap) (a:AV) (n:Nat) (agg:Bool):Option AV :=
  match a with
  | .ptr id off =>
    match readAt H id off n with
    | some l=>if agg then some (.agg l) else l.head?
    | none=>none
  | _=>none
def minmaxV (isMax:Bool):AV→List AV→Option AV
  | x,[]=>some x
  | .int k a,.int l b::rest=>if Nat.beq k l then minmaxV isMax (.int k (if isMax then (if ilt a b then b else a) else (if ilt b a then b else a))) rest else none
  | _,_=>none
def byteVal:AV→Option Nat
  | .int 4 (.ofNat n)=>if Nat.blt n 256 then some n else none
  | _=>none
def bytesOf:List AV→Option (List Nat)
  | []=>some []
  | v::l=>match byteVal v,bytesOf l with
    | some n,some r=>some (n::r)
    | _,_=>none
def nthN:List Nat→Nat→Option Nat
  | [],_=>none
  | a::_,0=>some a
  | _::l,i+1=>nthN l i
def nthV:List AV→Nat→Option AV
  | [],_=>none
  | a::_,0=>some a
  | _::l,i+1=>nthV l i
def shapeV:(fuel:Nat)→EqD→AV→Bool
  | _,.bool,.bool _=>true
  | _,.int,.int _ _=>true
  | _,.str,.str _=>true
  | _,.ptr,.ptr _ _=>true
  | _,.ptr,.nilptr=>true
  | f+1,.parts ds,.agg xs=>go f xs ds
  | _,_,_=>false
where
  go:(fuel:Nat)→List AV→List (Nat × Nat × Bool × EqD)→Bool
    | _,_,[]=>true
    | 0,_,_::_=>false
    | f+1,xs,(off,size,agg,d)::ds=>match partOf agg xs off size with
      | some x=>shapeV f d x&&go f xs ds
      | none=>false
def keyOk (d:EqD) (k:AV):Bool :=
  match d with
  | .parts _=>shapeV 64 d k
  | .iface _ _=>false
  | _=>true
def flat1:AV→AV→Bool
  | .bool a,.bool b=>a==b
  | .int j a,.int k b=>Nat.beq j k&&ieq a b
  | .str a,.str b=>beqs a b
  | _,_=>false
def flats:List AV→List AV→Bool
  | [],[]=>true
  | a::l,b::m=>flat1 a b&&flats l m
  | _,_=>false
def sameKey (d:EqD) (k:AV):List AEnt→Nat→Bool
  | [],_=>false
  | e::_,0=>match d,k,e.key with
    | .parts _,.agg l,.agg m=>flats l m
    | .parts _,_,_=>false
    | _,_,_=>true
  | _::es,i+1=>sameKey d k es i
def elemIs (H:Heap) (id:Pos) (elem:Nat):Bool :=
  match H.get id with
  | .cells _ _ e _ _ _=>Nat.beq e elem
  | _=>false
def evalOp (o:AOp) (env:Tree AV) (H:Heap):Option (AV × Heap) :=
  let pure (v:AV):Option (AV × Heap):=some (v,H)
  let lift (v:Option AV):Option (AV × Heap):=v.map fun v=>(v,H)
  match o with
  | .mov x=>pure (gv env x)
  | .pick c a b=>match gv env c with
    | .bool t=>pure (if t then gv env a else gv env b)
    | _=>none
  | .box elem x =>
    let l:=(gv env x).cells
    if allOne l then some (.ptr H.next 0,H.new (.cells (mkCells l) l.length elem true [] 0)) else none
  | .alloc elem zs=>some (.ptr H.next 0,H.new (.cells (mkCells zs) zs.length elem true [] 0))
  | .build zs parts=>lift ((layAll env zs parts).map .agg)
  | .buildSlice elem len zs parts =>
    match layAll env (reps zs len) parts with
    | some l=>if allOne l then some (.slice H.next 0 len len true,H.new (.cells (mkCells l) l.length elem true [] 0)) else none
    | none=>none
  | .load1 a=>lift (loadV H (gv env a) 1 false)
  | .loadN n a=>lift (loadV H (gv env a) n true)
  | .store n a x =>
    match gv env a with
    | .ptr id off =>
      let l:=(gv env x).cells
      if l.length=n then (match writeAt H id off l with | some H'=>some (.undef,H') | none=>none) else none
    | _=>none
  | .nilCheck x=>match gv env x with
    | .ptr id off=>pure (.ptr id off)
    | .func f a b=>pure (.func f a b)
    | .yield l=>pure (.yield l)
    | .iface t v=>pure (.iface t v)
    | .map m=>pure (.map m)
    | .slice a b c d e=>pure (.slice a b c d e)
    | _=>none
  | .arith op k x y=>lift (arith2 op k (gv env x) (gv env y))
  | .shift op x y=>lift (shiftV op (gv env x) (gv env y))
  | .strOp op x y=>lift (strV op (gv env x) (gv env y))
  | .eq neg d x y=>lift ((eqv 64 d (gv env x) (gv env y)).map fun b=>.bool (b != neg))
  | .unary op x=>lift (unV op (gv env x))
  | .convInt k x=>match gv env x with
    | .int _ n=>pure (.int k (wrapF k n))
    | _=>none
  | .convBytes elem x=>match gv env x with
    | .str s=>some (.slice H.next 0 s.length s.length false,H.new (.cells (mkCells (s.map fun n=>.int 4 (.ofNat n))) s.length elem true [] 0))
    | _=>none
  | .idStr x=>match gv env x with
    | .str s=>pure (.str s)
    | _=>none
  | .convStr x=>match gv env x with
    | .nilslice=>pure (.str [])
    | .slice id off len _ _=>match readAt H id off len with
      | some l=>(bytesOf l).map fun s=>(.str s,H)
      | none=>none
    | _=>none
  | .mkIface t x=>pure (.iface t (gv env x))
  | .mkFunc f a b=>pure (.func f (a.map (gv env)) (b.map (gv env)))
  | .mkMap=>some (.map H.next,H.new (.map [] 0))
  | .mkSlice elem bytes size zs len cap =>
    match gv env len,gv env cap with
    | .int 3 (.ofNat l),.int 3 (.ofNat c) =>
      if Nat.ble l c&&small (c*bytes)&&small c then some (.slice H.next 0 l c true,H.new (.cells (mkCells (reps zs c)) (c*size) elem true [] 0)) else none
    | _,_=>none
  | .sliceArr n size x lo hi mx =>
    match gv env x with
    | .ptr id off=>do
      let m ← boundO env mx n n
      let h ← boundO env hi n m
      let l ← boundO env lo 0 h
      some (.slice id (if m=l then off else off+l*size) (h-l) (m-l) true,H)
    | _=>none
  | .sliceSl elem size x lo hi mx =>
    match gv env x with
    | .nilslice=>do
      let m ← boundO env mx 0 0
      let h ← boundO env hi 0 m
      let _ ← boundO env lo 0 h
      some (.nilslice,H)
    | .slice id off len cap exact=>do
      let m ← boundO env mx cap cap
      let h ← boundO env hi len m
      let l ← boundO env lo 0 h
      if exact||mx.isSome||lo.isNone||elemIs H id elem then
        some (.slice id (if exact&&m=l then off else off+l*size) (h-l) (m-l) (exact||mx.isSome),H)
      else none
    | _=>none
  | .sliceStr x lo hi =>
    match gv env x with
    | .str s=>do
      let n:=s.length
      let h ← boundO env hi n n
      let l ← boundO env lo 0 h
      some (.str ((s.drop l).take (h-l)),H)
    | _=>none
  | .addOff off x=>match gv env x with
    | .ptr id o=>pure (.ptr id (o+off))
    | _=>none
  | .part agg off size x=>match gv env x with
    | .agg l=>lift (partOf agg l off size)
    | _=>none
  | .idxArr n size x i=>match gv env x,gv env i with
    | .ptr id o,.int _ (.ofNat j)=>if Nat.blt j n then pure (.ptr id (o+j*size)) else none
    | _,_=>none
  | .idxSl size x i=>match gv env x,gv env i with
    | .slice id o len _ _,.int _ (.ofNat j)=>if Nat.blt j len then pure (.ptr id (o+j*size)) else none
    | _,_=>none
  | .idxAgg agg n size x i=>match gv env x,gv env i with
    | .agg l,.int _ (.ofNat j)=>if Nat.blt j n then lift (partOf agg l (j*size) size) else none
    | _,_=>none
  | .idxStr x i=>match gv env x,gv env i with
    | .str s,.int _ (.ofNat j)=>lift ((nthN s j).map fun n=>.int 4 (.ofNat n))
    | _,_=>none
  | .lookup key zero ok m k =>
    if !keyOk key (gv env k) then none else
    let fin (v:AV) (b:Bool):Option (AV × Heap):=pure (if ok then .tuple [v,.bool b] else v)
    match gv env m with
    | .nilmap=>fin zero false
    | .map id=>match H.get id with
      | .map es _=>match findKey key (gv env k) es 0 with
        | some (some (_,v))=>fin v true
        | some none=>fin zero false
        | none=>none
      | .umap es=>match findU key (gv env k) es with
        | some (some v)=>fin v true
        | some none=>fin zero false
        | none=>none
      | _=>none
    | _=>none
  | .mapUpd key m k v =>
    if !keyOk key (gv env k) then none else
    match gv env m with
    | .map id=>match H.get id with
      | .map es clock=>match findKey key (gv env k) es 0 with
        | some (some (i,_))=>if sameKey key (gv env k) es i then some (.undef,H.set id (.map (setVal (gv env v) (gv env k) es i) clock)) else none
        | some none=>some (.undef,H.set id (.map (es++[⟨gv env k,gv env v,clock⟩]) (clock+1)))
        | none=>none
      | .umap es=>match findU key (gv env k) es with
        | some (some _)=>some (.undef,H.set id (.umap (updU key (gv env k) (gv env v) es)))
        | some none=>some (.undef,H.set id (.umap (es++[⟨gv env k,gv env v,0⟩])))
        | none=>none
      | _=>none
    | _=>none
  | .mapEntry key zero m k =>
    if !keyOk key (gv env k) then none else
    match gv env m with
    | .map id=>match H.get id with
      | .map es clock=>match findKey key (gv env k) es 0 with
        | some (some (i,v))=>if sameKey key (gv env k) es i then some (.tuple [v,.int 3 (.ofNat (bornAt es i))],H.set id (.map (setVal v (gv env k) es i) clock)) else none
        | some none=>some (.tuple [zero,.int 3 (.ofNat clock)],H.set id (.map (es++[⟨gv env k,zero,clock⟩]) (clock+1)))
        | none=>none
      | _=>none
    | _=>none
  | .entryStore m s v =>
    match gv env m,gv env s with
    | .map id,.int _ (.ofNat b)=>match H.get id with
      | .map es clock=>match findBorn b es 0 with
        | some i=>some (.undef,H.set id (.map (es.modify i fun e=>{ e with val:=gv env v }) clock))
        | none=>none
      | _=>none
    | _,_=>none
  | .rangeStr x=>match gv env x with
    | .str s=>some (.ptr H.next 0,H.new (.strIter s s 0))
    | _=>none
  | .nextStr it=>match gv env it with
    | .ptr id 0=>match H.get id with
      | .strIter s rest pos=>match rest with
        | []=>pure (.tuple [.bool false])
        | c::rest=>if Nat.blt c 128 then some (.tuple [.bool true,.int 3 (.ofNat pos),.int 2 (.ofNat c)],H.set id (.strIter s rest (pos+1))) else none
      | _=>none
    | _=>none
  | .rangeMap x=>match gv env x with
    | .nilmap=>some (.ptr H.next 0,H.new (.mapIter none 0 [] 0))
    | .map m=>match H.get m with
      | .map _ clock=>some (.ptr H.next 0,H.new (.mapIter (some m) clock [] clock))
      | _=>none
    | _=>none
  | .nextMap _ | .stop=>none
  | .entryMap it=>match gv env it with
    | .ptr id 0=>match H.get id with
      | .mapIter (some m) _ seen last=>match seen.getLast?,H.get m with
        | some b,.map es clock=>if Nat.beq clock last then (match findBorn b es 0 with
          | some i=>match es[i]? with
            | some e=>pure (.tuple [e.key,e.val])
            | none=>none
          | none=>none) else none
        | _,_=>none
      | _=>none
    | _=>none
  | .typeAssert t zero ok x=>match gv env x with
    | .nilIface=>if ok then pure (.tuple [zero,.bool false]) else none
    | .iface u v=>if Nat.beq u t then pure (if ok then .tuple [v,.bool true] else v) else if ok then pure (.tuple [zero,.bool false]) else none
    | _=>none
  | .extract x i=>match gv env x with
    | .tuple l=>lift (nthV l i)
    | _=>none
  | .lenC n=>pure (.int 3 (.ofNat n))
  | .lenStr x=>match gv env x with
    | .str s=>pure (.int 3 (.ofNat s.length))
    | _=>none
  | .lenSl x=>match gv env x with
    | .slice _ _ n _ _=>pure (.int 3 (.ofNat n))
    | .nilslice=>pure (.int 3 (.ofNat 0))
    | _=>none
  | .lenMap x=>match gv env x with
    | .nilmap=>pure (.int 3 (.ofNat 0))
    | .map id=>match H.get id with
      | .map es _=>pure (.int 3 (.ofNat es.length))
      | .umap es=>pure (.int 3 (.ofNat es.length))
      | _=>none
    | _=>none
  | .cap x=>match gv env x with
    | .slice _ _ _ n true=>pure (.int 3 (.ofNat n))
    | .nilslice=>pure (.int 3 (.ofNat 0))
    | _=>none
  | .append elem bytes size zs ofMake s x =>
    if ofMake then
      match gv env x with
      | .int 3 (.ofNat n)=>if small (n*bytes)&&small n then appendV elem bytes size H (gv env s) n (reps zs n) else none
      | _=>none
    else
      match source H size (gv env x) with
      | some (n,l)=>appendV elem bytes size H (gv env s) n l
      | none=>none
  | .copy size d s =>
    match gv env d,source H size (gv env s) with
    | .nilslice,some _=>pure (.int 3 (.ofNat 0))
    | .slice id off len _ _,some (n,l) =>
      let m:=min n len
      if m=0 then pure (.int 3 (.ofNat 0)) else
      match writeAt H id off (l.take (m*size)) with
      | some H'=>some (.int 3 (.ofNat m),H')
      | none=>none
    | _,_=>none
  | .clearSl zs x=>match gv env x with
    | .nilslice=>pure .undef
    | .slice id off n _ _=>if n=0 then pure .undef else match writeAt H id off (reps zs n) with
      | some H'=>some (.undef,H')
      | none=>none
    | _=>none
  | .clearMap x=>match gv env x with
    | .nilmap=>pure .undef
    | .map id=>match H.get id with
      | .map _ clock=>some (.undef,H.set id (.map [] clock))
      | _=>none
    | _=>none
  | .delete key m k =>
    if !keyOk key (gv env k) then none else
    match gv env m with
    | .nilmap=>pure .undef
    | .map id=>match H.get id with
      | .map es clock=>match findKey key (gv env k) es 0 with
        | some (some (i,_))=>some (.undef,H.set id (.map (eraseAt es i) clock))
        | some none=>some (.undef,H.set id (.map es clock))
        | none=>none
      | .umap es=>match findU key (gv env k) es with
        | some _=>some (.undef,H.set id (.umap (delU key (gv env k) es)))
        | none=>none
      | _=>none
    | _=>none
  | .minmax isMax l=>match l.map (gv env) with
    | x::rest=>lift (minmaxV isMax x rest)
    | []=>none
  | .call _ _=>none
def nextMapV (H:Heap) (it:AV):Option (List (Option AEnt) × (Option AEnt→AV × Heap)) :=
  match it with
  | .ptr id 0=>match H.get id with
    | .mapIter none _ _ _=>some ([none],fun _=>(.tuple [.bool false],H))
    | .mapIter (some m) since seen last=>match H.get m with
      | .map es clock =>
        if !seen.isEmpty&&!es.isEmpty&&es.all (fun e=>Nat.ble last e.born) then none else
        let left:=es.filter fun e=>!seen.contains e.born
        let old:=left.filter fun e=>Nat.blt e.born since
        let new:=left.filter fun e=>!Nat.blt e.born since
        some ((if old.isEmpty then [none] else [])++(old++new).map some,fun c=>match c with
          | some e=>(.tuple [.bool true,e.key,e.val],H.set id (.mapIter (some m) since (seen++[e.born]) clock))
          | none=>(.tuple [.bool false],H))
      | _=>none
    | _=>none
  | _=>none
def same1:AV→AV→Bool
  | .bool a,.bool b=>a==b
  | .int k a,.int l b=>Nat.beq k l&&ieq a b
  | .str a,.str b=>beqs a b
  | .ptr a i,.ptr b j=>Pos.beq a b&&Nat.beq i j
  | .nilptr,.nilptr=>true
  | .slice a i j k e,.slice b l m n f=>Pos.beq a b&&Nat.beq i l&&Nat.beq j m&&Nat.beq k n&&(e==f)
  | .nilslice,.nilslice=>true
  | .map a,.map b=>Pos.beq a b
  | .nilmap,.nilmap=>true
  | .yield a,.yield b=>Pos.beq a b
  | .nilFunc,.nilFunc=>true
  | .nilIface,.nilIface=>true
  | _,_=>false
def sameL:List AV→List AV→Bool
  | [],[]=>true
  | a::l,b::m=>same1 a b&&sameL l m
  | _,_=>false
def sameV:AV→AV→Bool
  | .agg l,.agg m=>sameL l m
  | .tuple l,.tuple m=>sameL l m
  | .func f a b,.func g c d=>Nat.beq f g&&sameL a c&&sameL b d
  | a,b=>same1 a b
def nameOf:AV→Option Pos
  | .ptr i _=>some i
  | .slice i _ _ _ _=>some i
  | .map i=>some i
  | _=>none
def hideAll (env:Tree AV) (H:Heap):List Pos→Heap × List (Pos × AObj)
  | []=>(H,[])
  | p::l=>match nameOf (env.get .undef p) with
    | some i=>let r:=hideAll env (H.set i .none) l;(r.1,(i,H.get i)::r.2)
    | none=>hideAll env H l
def showAll (H:Heap):List (Pos × AObj)→Heap
  | []=>H
  | (i,o)::l=>(showAll H l).set i o
def putArgs:List AV→Pos→Tree AV→Tree AV
  | [],_,t=>t
  | v::l,p,t=>putArgs l p.succ (t.set .undef p v)
def putParams:List Pos→List AV→Tree AV→Tree AV
  | p::ps,v::vs,t=>putParams ps vs (t.set .undef p v)
  | _,_,t=>t
def readRes (env:Tree AV) (H:Heap):List ARes→Option (List AV)
  | []=>some []
  | .tmp p::l=>(readRes env H l).map (env.get .undef p::·)
  | .cell p agg n::l=>match loadV H (env.get .undef p) n agg,readRes env H l with
    | some v,some r=>some (v::r)
    | _,_=>none
def resV:List AV→AV
  | [v]=>v
  | l=>.tuple l
structure Fr where
  env:Tree AV
  marks:List Pos
  rnd:Option Pos
def setDst (env:Tree AV) (d:Option Pos) (v:AV):Tree AV :=
  match d with
  | some p=>env.set .undef p v
  | none=>env
def guardOk (env:Tree AV):Option (Pos × Bool)→Bool
  | none=>true
  | some (p,want)=>match env.get .undef p with
    | .bool b=>b==want
    | _=>false
def guardDefd (env:Tree AV):Option (Pos × Bool)→Bool
  | none=>true
  | some (p,_)=>(env.get .undef p).defd
def recheck (env:Tree AV) (H:Heap):List ARe→Bool
  | []=>true
  | r::l =>
    (if guardOk env r.guard then (match evalOp r.op env H with
       | some (w,_)=>sameV (env.get .undef r.dst) w
       | none=>false) else true)&&recheck env H l
def takeMarks (H:Heap):List Pos→Option Heap
  | []=>some H
  | i::l=>match H.get i with
    | .deferred false=>takeMarks (H.set i (.deferred true)) l
    | _=>none
variable (tbl:Nat→AFunc)
mutual
def exec:(n:Nat)→ACode→Fr→Heap→(AJump→Fr→Heap→α)→α
  | 0,_,_,_,_=>fail
  | n+1,c,fr,H,K =>
    match c with
    | .skip=>K .none fr H
    | .region l=>ops n l fr H (K .none)
    | .seq a b=>exec n a fr H fun j fr H=>match j with
      | .none=>exec n b fr H K
      | j=>K j fr H
    | .cond c a b=>match gv fr.env c with
      | .bool true=>exec n a fr H K
      | .bool false=>exec n b fr H K
      | _=>fail
    | .block id b=>exec n b fr H fun j fr H=>match j with
      | .exit i=>if Nat.beq i id then K .none fr H else K (.exit i) fr H
      | j=>K j fr H
    | .loop b=>exec n b fr H fun j fr H=>match j with
      | .none=>exec n (.loop b) fr H K
      | j=>K j fr H
    | .exit id=>K (.exit id) fr H
    | .ret=>K .ret fr H
    | .over t=>match tbl t with
      | .over g=>match g fr.env H with
        | some (env,H)=>K .none { fr with env:=env } H
        | none=>fail
      | _=>fail
    | .rangeFunc f params assign body =>
      let go (fr:Fr) (H:Heap) (d:Pos):α :=
        callV n (gv fr.env f) [.yield H.next] (H.new (.loop .ready .none 0 fr.env params assign body d)) fun _ H' =>
          match H'.get H.next with
          | .loop st pend fn env ps as bd d =>
            match st with
            | .busy=>fail
            | _=>K pend fr (H'.set H.next (.loop .exhausted pend fn env ps as bd d))
          | _=>fail
      match fr.rnd with
      | none=>go { fr with marks:=H.next::fr.marks } (H.new (.deferred false)) H.next
      | some l=>match H.get l with
        | .loop _ _ _ _ _ _ _ d=>go fr H d
        | _=>fail
def ops:(n:Nat)→List AOper→Fr→Heap→(Fr→Heap→α)→α
  | 0,_,_,_,_=>fail
  | _+1,[],fr,H,K=>K fr H
  | n+1,o::l,fr,H,K =>
    if guardOk fr.env o.guard then
      let h:=hideAll fr.env H o.hide
      let after (v:AV) (H:Heap):α :=
        let env:=setDst fr.env o.dst v
        let H:=showAll H h.2
        if recheck env H o.re then ops n l { fr with env:=env } H K else fail
      match o.op with
      | .call f args=>callV n (gv fr.env f) (args.map (gv fr.env)) h.1 after
      | .nextMap it=>match nextMapV h.1 (gv fr.env it) with
        | some (cs,aft)=>ask cs.length fun i=>match cs[i]? with
          | some c=>after (aft c).1 (aft c).2
          | none=>fail
        | none=>fail
      | op=>match evalOp op fr.env h.1 with
        | some (v,H)=>after v H
        | none=>fail
    else if guardDefd fr.env o.guard then ops n l { fr with env:=setDst fr.env o.dst .undef } H K else fail
def callV:(n:Nat)→AV→List AV→Heap→(AV→Heap→α)→α
  | 0,_,_,_,_=>fail
  | n+1,f,args,H,K =>
    match f with
    | .func f first captured =>
      match tbl f with
      | .none | .over _=>fail
      | .prim g=>match g (first++args++captured) H with
        | some (v,H)=>K v H
        | none=>fail
      | .code nt results body =>
        if Nat.ble (first++args++captured).length nt then
        exec n body ⟨putArgs (first++args++captured) .xH .leaf,[],none⟩ H fun j fr H =>
          match j with
          | .exit _=>fail
          | _=>match takeMarks H fr.marks with
            | some H=>match readRes fr.env H results with
              | some l=>K (resV l) H
              | none=>fail
            | none=>fail
        else fail
    | .yield l =>
      match H.get l with
      | .loop st pend fn env ps as bd d =>
        match st with
        | .ready =>
          if args.length=ps.length then
            exec n as ⟨putParams ps args env,[],some l⟩ H fun j fr H =>
              match j,H.get l with
              | .none,.loop .ready pend fn env ps as bd' d =>
                exec n bd fr (H.set l (.loop .busy pend fn env ps as bd' d)) fun j _ H =>
                  match H.get l with
                  | .loop _ _ fn env ps as bd d =>
                    match j with
                    | .none=>K (.bool true) (H.set l (.loop .ready .none fn env ps as bd d))
                    | j=>K (.bool false) (H.set l (.loop .done j fn env ps as bd d))
                  | _=>fail
              | _,_=>fail
          else fail
        | _=>fail
      | _=>fail
    | _=>fail
end
end
end Go.Abs
namespace Go.Abs
abbrev T:=Opd.t
abbrev C:=Opd.c
abbrev I (k n:Nat):Opd:=.c (.int k (.ofNat n))
abbrev J (k n:Nat):Opd:=.c (.int k (.negSucc n))
abbrev O (d:Pos) (o:AOp):AOper:=⟨some d,o,none,[],[]⟩
abbrev N (o:AOp):AOper:=⟨none,o,none,[],[]⟩
abbrev R (d:Pos) (o:AOp) (h:List Pos) (re:List ARe):AOper:=⟨some d,o,none,h,re⟩
abbrev M (o:AOp) (h:List Pos) (re:List ARe):AOper:=⟨none,o,none,h,re⟩
abbrev G (d:Pos) (o:AOp) (g:Pos) (b:Bool):AOper:=⟨some d,o,some (g,b),[],[]⟩
abbrev G' (d:Option Pos) (o:AOp) (g:Pos) (b:Bool) (h:List Pos) (re:List ARe):AOper:=⟨d,o,some (g,b),h,re⟩
abbrev i (k n:Nat):AV:=.int k (.ofNat n)
abbrev j (k n:Nat):AV:=.int k (.negSucc n)
end Go.Abs
