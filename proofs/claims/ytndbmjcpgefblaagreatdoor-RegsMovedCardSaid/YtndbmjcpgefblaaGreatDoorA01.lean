/- A part of the proof (an abstract machine, walks): no statement of its own, no conditions. -/
import Derived.Test.YtndbmjcpgefblaaGreatDoorA00
set_option linter.all false
namespace Go.Abs.K
section
variable {β:Type}
abbrev KV:=AV→Heap→Prop
noncomputable def forceN (n:Nat) (k:Nat→Prop):Prop:=Nat.rec (motive:=fun _=>Prop) (k Nat.zero) (fun m _=>k (Nat.succ m)) n
noncomputable def forceI (n:Int) (k:Int→Prop):Prop :=
  Int.rec (motive:=fun _=>Prop) (fun m=>forceN m fun m=>k (.ofNat m)) (fun m=>forceN m fun m=>k (.negSucc m)) n
noncomputable def forceP (p:Pos):(Pos→Prop)→Prop :=
  Pos.rec (motive:=fun _=>(Pos→Prop)→Prop) (fun k=>k .xH) (fun _ ih k=>ih fun p=>k (.xO p)) (fun _ ih k=>ih fun p=>k (.xI p)) p
noncomputable def succK (p:Pos):(Pos→Prop)→Prop :=
  Pos.rec (motive:=fun _=>(Pos→Prop)→Prop) (fun k=>k (.xO .xH)) (fun p _ k=>k (.xI p)) (fun _ ih k=>ih fun p=>k (.xO p)) p
noncomputable def ite' (b:Bool) (x y:Prop):Prop:=Bool.rec (motive:=fun _=>Prop) y x b
noncomputable def forceB (b:Bool) (k:Bool→Prop):Prop:=Bool.rec (motive:=fun _=>Prop) (k false) (k true) b
noncomputable def getK (d:β) (p:Pos):Tree β→(β→Prop)→Prop:=Pos.rec (motive:=fun _=>Tree β→(β→Prop)→Prop)
  (fun t k=>Tree.rec (motive:=fun _=>Prop) (k d) (fun _ v _ _ _=>k v) t)
  (fun _ ih t k=>Tree.rec (motive:=fun _=>Prop) (k d) (fun l _ _ _ _=>ih l k) t)
  (fun _ ih t k=>Tree.rec (motive:=fun _=>Prop) (k d) (fun _ _ r _ _=>ih r k) t) p
noncomputable def setK (d:β) (p:Pos):β→Tree β→(Tree β→Prop)→Prop:=Pos.rec (motive:=fun _=>β→Tree β→(Tree β→Prop)→Prop)
  (fun v t k=>Tree.rec (motive:=fun _=>Prop) (k (.node .leaf v .leaf)) (fun l _ r _ _=>k (.node l v r)) t)
  (fun _ ih v t k=>Tree.rec (motive:=fun _=>Prop) (ih v .leaf fun l=>k (.node l d .leaf)) (fun l w r _ _=>ih v l fun l=>k (.node l w r)) t)
  (fun _ ih v t k=>Tree.rec (motive:=fun _=>Prop) (ih v .leaf fun r=>k (.node .leaf d r)) (fun l w r _ _=>ih v r fun r=>k (.node l w r)) t) p
noncomputable def getNK (d:β) (t:Tree β):Nat→(β→Prop)→Prop:=Tree.rec (motive:=fun _=>Nat→(β→Prop)→Prop)
  (fun _ k=>k d)
  (fun _ v _ ihl ihr n k=>Nat.rec (motive:=fun _=>Prop) (k v) (fun m _=>ite' (Nat.beq (Nat.mod m 2) 0) (ihl (Nat.div m 2) k) (ihr (Nat.div m 2) k)) n) t
noncomputable def rootK (d:β) (x:β) (t:Tree β) (k:Tree β→Prop):Prop:=Tree.rec (motive:=fun _=>Prop) (k (.node .leaf x .leaf)) (fun l _ r _ _=>k (.node l x r)) t
noncomputable def lK (d:β) (ih:Nat→β→Tree β→(Tree β→Prop)→Prop) (m:Nat) (x:β) (t:Tree β) (k:Tree β→Prop):Prop :=
  Tree.rec (motive:=fun _=>Prop) (ih m x .leaf fun l=>k (.node l d .leaf)) (fun l w r _ _=>ih m x l fun l=>k (.node l w r)) t
noncomputable def rK (d:β) (ih:Nat→β→Tree β→(Tree β→Prop)→Prop) (m:Nat) (x:β) (t:Tree β) (k:Tree β→Prop):Prop :=
  Tree.rec (motive:=fun _=>Prop) (ih m x .leaf fun r=>k (.node .leaf d r)) (fun l w r _ _=>ih m x r fun r=>k (.node l w r)) t
noncomputable def setNK (d:β) (f:Nat):Nat→β→Tree β→(Tree β→Prop)→Prop:=Nat.rec (motive:=fun _=>Nat→β→Tree β→(Tree β→Prop)→Prop)
  (fun n x t k=>Nat.rec (motive:=fun _=>Prop) (rootK d x t k) (fun _ _=>k t) n)
  (fun _ ih n x t k=>Nat.rec (motive:=fun _=>Prop) (rootK d x t k) (fun m _=>ite' (Nat.beq (Nat.mod m 2) 0) (lK d ih (Nat.div m 2) x t k) (rK d ih (Nat.div m 2) x t k)) n) f
noncomputable def forceNs (l:List Nat):(List Nat→Prop)→Prop:=List.rec (motive:=fun _=>(List Nat→Prop)→Prop) (fun k=>k []) (fun n _ ih k=>forceN n fun n=>ih fun l=>k (n::l)) l
noncomputable def forceV (v:AV):(AV→Prop)→Prop :=
  AV.rec (motive_1:=fun _=>(AV→Prop)→Prop) (motive_2:=fun _=>(List AV→Prop)→Prop)
    (fun _ ih k=>ih fun l=>k (.tuple l))
    (fun _ ih k=>ih fun l=>k (.agg l))
    (fun b k=>forceB b fun b=>k (.bool b))
    (fun j n k=>forceN j fun j=>forceI n fun n=>k (.int j n))
    (fun s k=>forceNs s fun s=>k (.str s))
    (fun id off k=>forceP id fun id=>forceN off fun off=>k (.ptr id off))
    (fun k=>k .nilptr)
    (fun id off len cap ex k=>forceP id fun id=>forceN off fun off=>forceN len fun len=>forceN cap fun cap=>forceB ex fun ex=>k (.slice id off len cap ex))
    (fun k=>k .nilslice)
    (fun id k=>forceP id fun id=>k (.map id))
    (fun k=>k .nilmap)
    (fun f _ _ iha ihb k=>forceN f fun f=>iha fun a=>ihb fun b=>k (.func f a b))
    (fun id k=>forceP id fun id=>k (.yield id))
    (fun k=>k .nilFunc)
    (fun t _ ih k=>forceN t fun t=>ih fun v=>k (.iface t v))
    (fun k=>k .nilIface)
    (fun k=>k .junk)
    (fun k=>k [])
    (fun _ _ ihv ihl k=>ihv fun v=>ihl fun l=>k (v::l)) v
noncomputable def forceL (l:List AV):(List AV→Prop)→Prop:=List.rec (motive:=fun _=>(List AV→Prop)→Prop) (fun k=>k []) (fun v _ ih k=>forceV v fun v=>ih fun l=>k (v::l)) l
noncomputable def gvK (env:Tree AV) (x:Opd) (k:AV→Prop):Prop:=Opd.rec (motive:=fun _=>Prop) (fun p=>getK .undef p env k) k x
noncomputable def gvsK (env:Tree AV) (l:List Opd):(List AV→Prop)→Prop :=
  List.rec (motive:=fun _=>(List AV→Prop)→Prop) (fun k=>k []) (fun x _ ih k=>gvK env x fun v=>ih fun l=>k (v::l)) l
noncomputable def optK (o:Option β) (k:β→Prop):Prop:=Option.rec (motive:=fun _=>Prop) False k o
noncomputable def hgetK (H:Heap) (id:Pos) (k:AObj→Prop):Prop:=Heap.rec (motive:=fun _=>Prop) (fun t _=>getK .none id t k) H
noncomputable def hsetK (H:Heap) (id:Pos) (o:AObj) (k:Heap→Prop):Prop:=Heap.rec (motive:=fun _=>Prop) (fun t n=>setK .none id o t fun t=>k ⟨t,n⟩) H
noncomputable def hnewK (H:Heap) (o:AObj) (k:Pos→Heap→Prop):Prop :=
  Heap.rec (motive:=fun _=>Prop) (fun t n=>setK .none n o t fun t=>succK n fun m=>k n ⟨t,m⟩) H
noncomputable def dropsK (l:List Pos):Heap→(Heap→Prop)→Prop :=
  List.rec (motive:=fun _=>Heap→(Heap→Prop)→Prop) (fun H k=>k H) (fun i _ ih H k=>hsetK H i .none fun H=>ih H k) l
noncomputable def objCells (k:Tree AV→Nat→Nat→Bool→List Pos→Nat→Prop) (o:AObj):Prop :=
  AObj.rec (motive:=fun _=>Prop) False k (fun _ _=>False) (fun _=>False) (fun _ _ _=>False) (fun _ _ _ _ _ _ _ _=>False) (fun _=>False) (fun _ _ _ _=>False) o
noncomputable def cellsK (H:Heap) (id:Pos) (k:Tree AV→Nat→Nat→Bool→List Pos→Nat→Prop):Prop:=hgetK H id (objCells k)
noncomputable def readCellsK (c:Tree AV) (n m:Nat):Nat→(List AV→Prop)→Prop :=
  Nat.rec (motive:=fun _=>Nat→(List AV→Prop)→Prop) (fun _ k=>k [])
    (fun _ ih off k=>ite' (Nat.blt off n) (forceN off fun off=>getNK .undef c off fun v=>ih (Nat.succ off) fun l=>k (v::l)) False) m
noncomputable def writeCellsK (l:List AV):Tree AV→Nat→(Tree AV→Prop)→Prop :=
  List.rec (motive:=fun _=>Tree AV→Nat→(Tree AV→Prop)→Prop) (fun c _ k=>k c) (fun v _ ih c off k=>forceN off fun off=>setNK .undef off off v c fun c=>ih c (Nat.succ off) k) l
noncomputable def readAtK (H:Heap) (id:Pos) (off m:Nat) (k:List AV→Prop):Prop :=
  cellsK H id fun c n _ _ _ _=>readCellsK c n m off k
noncomputable def andB (a b:Bool):Bool:=Bool.rec (motive:=fun _=>Bool) false b a
noncomputable def allOneK (l:List AV):Bool:=List.rec (motive:=fun _=>Bool) true (fun v _ ih=>andB v.oneCell ih) l
noncomputable def lenK (l:List β):Nat:=List.rec (motive:=fun _=>Nat) Nat.zero (fun _ _ ih=>Nat.succ ih) l
noncomputable def writeAt2 (H:Heap) (id:Pos) (off:Nat) (l:List AV) (k:Heap→Prop) (c:Tree AV) (n e:Nat) (rw:Bool) (par:List Pos) (fz:Nat):Prop :=
  ite' (andB rw (andB (Nat.ble fz off) (andB (Nat.ble (Nat.add off (lenK l)) n) (allOneK l))))
        (dropsK par H fun H=>writeCellsK l c off fun c=>hsetK H id (.cells c n e true [] fz) k) False
noncomputable def writeAtK (H:Heap) (id:Pos) (off:Nat) (l:List AV) (k:Heap→Prop):Prop:=cellsK H id (writeAt2 H id off l k)
noncomputable def ptrK (v:AV) (k:Pos→Nat→Prop):Prop :=
  match v with
  | .ptr id off=>k id off
  | _=>False
noncomputable def newCellsK (H:Heap) (l:List AV) (n elem:Nat) (k:Pos→Heap→Prop):Prop :=
  writeCellsK l .leaf 0 fun c=>forceN n fun n=>hnewK H (.cells c n elem true [] 0) k
noncomputable def appNil (elem bytes size:Nat) (H:Heap) (n:Nat) (l:List AV) (k:KV):Prop :=
  ite' (Nat.beq n 0) (k .nilslice H) (ite' (andB (small (n*bytes)) (small n)) (newCellsK H l (n*size) elem fun id H=>k (.slice id 0 n n false) H) False)
noncomputable def appIn (size:Nat) (H:Heap) (n:Nat) (l:List AV) (k:KV) (id:Pos) (off len cap:Nat) (exact:Bool) (need:Nat):Prop :=
  ite' (Nat.beq n 0) (k (.slice id off need cap exact) H)
    (forceN (Nat.add off (Nat.mul len size)) fun at_=>writeAtK H id at_ l fun H=>k (.slice id off need cap exact) H)
noncomputable def appSh (elem size:Nat) (H:Heap) (k:KV) (id:Pos) (off cap:Nat) (need:Nat) (all:List AV) (c:Tree AV) (m e:Nat) (rw:Bool) (par:List Pos) (fz:Nat):Prop :=
  ite' (andB rw (andB (Nat.beq (Nat.add off (Nat.mul cap size)) m) (andB (Nat.beq e elem) (Nat.ble fz m))))
    (hsetK H id (.cells c m e false par fz) fun H =>
      writeCellsK all .leaf 0 fun c=>forceN (need*size) fun nn=>forceN (fz-off) fun fz=>hnewK H (.cells c nn elem true (id::par) fz) fun id H=>k (.slice id 0 need need false) H)
    False
noncomputable def appGr (elem size:Nat) (H:Heap) (l:List AV) (k:KV) (id:Pos) (off len cap:Nat) (exact:Bool) (need:Nat) (c:Tree AV) (m e:Nat) (rw:Bool) (par:List Pos) (fz:Nat):Prop :=
  readCellsK c m (Nat.mul len size) off fun old=>forceL (old++l) fun all =>
    ite' exact (newCellsK H all (need*size) elem fun id H=>k (.slice id 0 need need false) H) (ite' (Nat.beq len cap) (appSh elem size H k id off cap need all c m e rw par fz) False)
noncomputable def appSl (elem bytes size:Nat) (H:Heap) (n:Nat) (l:List AV) (k:KV) (id:Pos) (off len cap:Nat) (exact:Bool):Prop :=
  forceN (Nat.add len n) fun need=>ite' (Nat.ble need cap) (appIn size H n l k id off len cap exact need)
    (ite' (andB (small (need*bytes)) (small need)) (cellsK H id (appGr elem size H l k id off len cap exact need)) False)
noncomputable def appendK (elem bytes size:Nat) (H:Heap) (s:AV) (n:Nat) (l:List AV) (k:KV):Prop :=
  ite' (allOneK l)
    (match s with
    | .nilslice=>appNil elem bytes size H n l k
    | .slice id off len cap exact=>appSl elem bytes size H n l k id off len cap exact
    | _=>False)
    False
noncomputable def intsK (x y:AV) (k:Nat→Int→Nat→Int→Prop):Prop :=
  match x,y with
  | .int i a,.int j b=>k i a j b
  | _,_=>False
noncomputable def addK (a b:Int) (k:Int→Prop):Prop :=
  Int.rec (motive:=fun _=>Prop) (fun m=>Int.rec (motive:=fun _=>Prop) (fun n=>forceN (Nat.add m n) fun s=>k (.ofNat s)) (fun _=>forceI (a+b) k) b) (fun _=>forceI (a+b) k) a
noncomputable def subK (a b:Int) (k:Int→Prop):Prop :=
  Int.rec (motive:=fun _=>Prop) (fun m=>Int.rec (motive:=fun _=>Prop) (fun n=>ite' (Nat.ble n m) (forceN (Nat.sub m n) fun s=>k (.ofNat s)) (forceI (a-b) k)) (fun _=>forceI (a-b) k) b) (fun _=>forceI (a-b) k) a
noncomputable def wrap3 (n:Int) (k:Int→Prop):Prop :=
  Int.rec (motive:=fun _=>Prop) (fun m=>ite' (Nat.blt m 9223372036854775808) (k (.ofNat m)) (forceI (wrapF 3 n) k)) (fun _=>forceI (wrapF 3 n) k) n
noncomputable def wrapK (j:Nat) (n:Int) (k:Int→Prop):Prop:=ite' (Nat.beq j 3) (wrap3 n k) (forceI (wrapF j n) k)
noncomputable def ieqK (a b:Int):Bool:=Int.rec (motive:=fun _=>Bool) (fun m=>Int.rec (motive:=fun _=>Bool) (fun n=>Nat.beq m n) (fun _=>false) b) (fun m=>Int.rec (motive:=fun _=>Bool) (fun _=>false) (fun n=>Nat.beq m n) b) a
noncomputable def iltK (a b:Int):Bool:=Int.rec (motive:=fun _=>Bool) (fun m=>Int.rec (motive:=fun _=>Bool) (fun n=>Nat.blt m n) (fun _=>false) b) (fun m=>Int.rec (motive:=fun _=>Bool) (fun _=>true) (fun n=>Nat.blt n m) b) a
noncomputable def notK (b:Bool):Bool:=Bool.rec (motive:=fun _=>Bool) true false b
noncomputable def boolK (b:Bool) (k:AV→Prop):Prop:=Bool.rec (motive:=fun _=>Prop) (k (.bool false)) (k (.bool true)) b
abbrev AK:=Nat→Int→Int→(AV→Prop)→Prop
noncomputable def arAdd:AK:=fun j a b k=>addK a b fun s=>wrapK j s fun s=>k (.int j s)
noncomputable def arSub:AK:=fun j a b k=>subK a b fun s=>wrapK j s fun s=>k (.int j s)
noncomputable def arSlow (op:BinOp):AK:=fun j a b k=>optK (arithV op j a b) fun v=>forceV v k
noncomputable def arNo:AK:=fun _ _ _ _=>False
noncomputable def arEql:AK:=fun _ a b k=>boolK (ieqK a b) k
noncomputable def arNeq:AK:=fun _ a b k=>boolK (notK (ieqK a b)) k
noncomputable def arLss:AK:=fun _ a b k=>boolK (iltK a b) k
noncomputable def arLeq:AK:=fun _ a b k=>boolK (notK (iltK b a)) k
noncomputable def arGtr:AK:=fun _ a b k=>boolK (iltK b a) k
noncomputable def arGeq:AK:=fun _ a b k=>boolK (notK (iltK a b)) k
noncomputable def arOp (op:BinOp):AK:=BinOp.rec (motive:=fun _=>AK) arAdd arSub (arSlow .mul) (arSlow .quo) (arSlow .rem) (arSlow .and) (arSlow .or) (arSlow .xor) arNo arNo (arSlow .andNot) arEql arNeq arLss arLeq arGtr arGeq op
noncomputable def arithK (op:BinOp) (j:Nat) (x y:AV) (k:AV→Prop):Prop :=
  intsK x y fun i a l b=>ite' (andB (Nat.beq i j) (Nat.beq l j)) (arOp op j a b k) False
abbrev Cont:=AJump→Fr→Heap→Prop
structure Runs where
  exec:ACode→Fr→Heap→Cont→Prop
  ops:List AOper→Fr→Heap→(Fr→Heap→Prop)→Prop
  call:AV→List AV→Heap→KV→Prop
abbrev OK:=Runs→Tree AV→Heap→KV→Prop
noncomputable def slow (o:AOp):OK:=fun _ env H k=>optK (evalOp o env H) fun p=>Prod.rec (motive:=fun _=>Prop) (fun v H=>forceV v fun v=>k v H) p
noncomputable def oMov (x:Opd):OK:=fun _ env H k=>gvK env x fun v=>k v H
noncomputable def pickV (env:Tree AV) (H:Heap) (k:KV) (a b:Opd) (c:AV):Prop:=match c with
    | .bool t=>ite' t (gvK env a fun v=>k v H) (gvK env b fun v=>k v H)
    | _=>False
noncomputable def oPick (c a b:Opd):OK:=fun _ env H k=>gvK env c (pickV env H k a b)
noncomputable def oBox (elem:Nat) (x:Opd):OK:=fun _ env H k=>gvK env x fun v=>forceL v.cells fun l=>ite' (allOneK l) (newCellsK H l (lenK l) elem fun id H=>k (.ptr id 0) H) False
noncomputable def oAlloc (elem:Nat) (zs:List AV):OK:=fun _ _ H k=>newCellsK H zs (lenK zs) elem fun id H=>k (.ptr id 0) H
noncomputable def oBuildSlice (elem len:Nat) (zs:List AV) (parts:List (Nat × Nat × Opd)):OK:=fun _ env H k =>
  optK (layAll env (reps zs len) parts) fun l=>forceL l fun l=>ite' (allOneK l) (newCellsK H l (lenK l) elem fun id H=>k (.slice id 0 len len true) H) False
noncomputable def load1C (off:Nat) (k:AV→Prop) (c:Tree AV) (n _e:Nat) (_rw:Bool) (_p:List Pos) (_fz:Nat):Prop:=ite' (Nat.blt off n) (getNK .undef c off k) False
noncomputable def load1V (H:Heap) (k:KV) (a:AV):Prop:=ptrK a fun id off=>cellsK H id (load1C off fun v=>k v H)
noncomputable def oLoad1 (a:Opd):OK:=fun _ env H k=>gvK env a (load1V H k)
noncomputable def oLoadN (n:Nat) (a:Opd):OK:=fun _ env H k=>gvK env a fun a=>ptrK a fun id off=>readAtK H id off n fun l=>k (.agg l) H
noncomputable def storeV (n:Nat) (H:Heap) (k:KV) (a:AV) (l:List AV):Prop:=ptrK a fun id off=>ite' (Nat.beq (lenK l) n) (writeAtK H id off l fun H=>k .undef H) False
noncomputable def oStore (n:Nat) (a x:Opd):OK:=fun _ env H k=>gvK env a fun a=>gvK env x fun v=>forceL v.cells (storeV n H k a)
noncomputable def oArith (op:BinOp) (j:Nat) (x y:Opd):OK:=fun _ env H k=>gvK env x fun x=>gvK env y fun y=>arithK op j x y fun v=>k v H
noncomputable def oAddOff (off:Nat) (x:Opd):OK:=fun _ env H k=>gvK env x fun x=>ptrK x fun id o=>forceN (Nat.add o off) fun o=>k (.ptr id o) H
noncomputable def idxV (size:Nat) (H:Heap) (k:KV) (x i:AV):Prop:=match x,i with
    | .slice id o len _ _,.int _ (.ofNat j)=>ite' (Nat.blt j len) (forceN (Nat.add o (Nat.mul j size)) fun o=>k (.ptr id o) H) False
    | _,_=>False
noncomputable def oIdxSl (size:Nat) (x i:Opd):OK:=fun _ env H k=>gvK env x fun x=>gvK env i fun i=>idxV size H k x i
noncomputable def oMkMap:OK:=fun _ _ H k=>hnewK H (.map [] 0) fun id H=>k (.map id) H
noncomputable def mkSliceV (elem bytes size:Nat) (zs:List AV) (H:Heap) (k:KV) (len cap:AV):Prop:=match len,cap with
    | .int 3 (.ofNat l),.int 3 (.ofNat c) =>
      ite' (andB (Nat.ble l c) (andB (small (c*bytes)) (small c))) (forceL (reps zs c) fun zs=>newCellsK H zs (c*size) elem fun id H=>k (.slice id 0 l c true) H) False
    | _,_=>False
noncomputable def oMkSlice (elem bytes size:Nat) (zs:List AV) (len cap:Opd):OK:=fun _ env H k=>gvK env len fun len=>gvK env cap fun cap=>mkSliceV elem bytes size zs H k len cap
noncomputable def convBytesV (elem:Nat) (H:Heap) (k:KV) (x:AV):Prop:=match x with
    | .str s=>forceL (s.map fun n=>.int 4 (.ofNat n)) fun l=>newCellsK H l s.length elem fun id H=>forceN s.length fun n=>k (.slice id 0 n n false) H
    | _=>False
noncomputable def oConvBytes (elem:Nat) (x:Opd):OK:=fun _ env H k=>gvK env x (convBytesV elem H k)
noncomputable def appMake (elem bytes size:Nat) (zs:List AV) (H:Heap) (s:AV) (k:KV) (x:AV):Prop:=match x with
    | .int 3 (.ofNat n)=>ite' (andB (small (n*bytes)) (small n)) (forceL (reps zs n) fun l=>appendK elem bytes size H s n l k) False
    | _=>False
noncomputable def appSrc (elem bytes size:Nat) (H:Heap) (s:AV) (k:KV) (p:Nat × List AV):Prop:=Prod.rec (motive:=fun _=>Prop) (fun n l=>forceN n fun n=>forceL l fun l=>appendK elem bytes size H s n l k) p
noncomputable def oAppend (elem bytes size : Nat) (zs : List AV) (ofMake : Bool) (s x : Opd) : OK := fun _ env H k => gvK env s fun s => gvK env x fun x =>
      ite' ofMake (appMake elem bytes size zs H s k x) (optK (source H size x) (appSrc elem bytes size H s k))
noncomputable def copyV (size:Nat) (H:Heap) (k:KV) (d:AV) (n:Nat) (l:List AV):Prop:=match d with
    | .nilslice=>k (.int 3 (.ofNat 0)) H
    | .slice id off len _ _=>forceN (min n len) fun m=>ite' (Nat.beq m 0) (k (.int 3 (.ofNat 0)) H)
        (forceL (l.take (m*size)) fun l=>writeAtK H id off l fun H=>k (.int 3 (.ofNat m)) H)
    | _=>False
noncomputable def oCopy (size:Nat) (d s:Opd):OK:=fun _ env H k=>gvK env d fun d=>gvK env s fun s=>optK (source H size s) fun p=>Prod.rec (motive:=fun _=>Prop) (copyV size H k d) p
noncomputable def rangeStrV (H:Heap) (k:KV) (x:AV):Prop:=match x with
    | .str s=>hnewK H (.strIter s s 0) fun id H=>k (.ptr id 0) H
    | _=>False
noncomputable def oRangeStr (x:Opd):OK:=fun _ env H k=>gvK env x (rangeStrV H k)
noncomputable def rangeMapV (H:Heap) (k:KV) (x:AV):Prop:=match x with
    | .nilmap=>hnewK H (.mapIter none 0 [] 0) fun id H=>k (.ptr id 0) H
    | .map m=>hgetK H m fun o=>match o with
      | .map _ clock=>hnewK H (.mapIter (some m) clock [] clock) fun id H=>k (.ptr id 0) H
      | _=>False
    | _=>False
noncomputable def oRangeMap (x:Opd):OK:=fun _ env H k=>gvK env x (rangeMapV H k)
noncomputable def nextMapK (H:Heap) (it:AV) (k:KV):Prop:=match nextMapV H it with
    | some (cs,aft)=>∀ i,i<cs.length→match cs[i]? with
      | some c=>k (aft c).1 (aft c).2
      | none=>False
    | none=>False
noncomputable def oNextMap (it:Opd):OK:=fun _ env H k=>gvK env it fun it=>nextMapK H it k
noncomputable def oCall (f:Opd) (args:List Opd):OK:=fun ih env H k=>gvK env f fun f=>gvsK env args fun args=>ih.call f args H k
noncomputable def nthK (l:List AV):Nat→(AV→Prop)→Prop:=List.rec (motive:=fun _=>Nat→(AV→Prop)→Prop) (fun _ _=>False) (fun v _ ih n k=>Nat.rec (motive:=fun _=>Prop) (k v) (fun n _=>ih n k) n) l
noncomputable def extractV (i:Nat) (H:Heap) (k:KV) (x:AV):Prop:=match x with
    | .tuple l=>nthK l i fun v=>k v H
    | _=>False
noncomputable def oExtract (x:Opd) (i:Nat):OK:=fun _ env H k=>gvK env x (extractV i H k)
noncomputable def nilV (H:Heap) (k:KV) (x:AV):Prop:=match x with
    | .ptr id off=>k (.ptr id off) H
    | .func f a b=>k (.func f a b) H
    | .yield l=>k (.yield l) H
    | .iface t v=>k (.iface t v) H
    | .map m=>k (.map m) H
    | .slice a b c d e=>k (.slice a b c d e) H
    | _=>False
noncomputable def oNilCheck (x:Opd):OK:=fun _ env H k=>gvK env x (nilV H k)
noncomputable def lenSlV (H:Heap) (k:KV) (x:AV):Prop:=match x with
    | .slice _ _ n _ _=>k (.int 3 (.ofNat n)) H
    | .nilslice=>k (.int 3 (.ofNat 0)) H
    | _=>False
noncomputable def oLenSl (x:Opd):OK:=fun _ env H k=>gvK env x (lenSlV H k)
noncomputable def opRun (o:AOp):OK:=AOp.rec (motive:=fun _=>OK)
  oMov
  oPick
  oBox
  oAlloc
  (fun zs parts=>slow (.build zs parts))
  oBuildSlice
  oLoad1
  oLoadN
  oStore
  oNilCheck
  oArith
  (fun op x y=>slow (.shift op x y))
  (fun op x y=>slow (.strOp op x y))
  (fun neg d x y=>slow (.eq neg d x y))
  (fun op x=>slow (.unary op x))
  (fun k x=>slow (.convInt k x))
  oConvBytes
  (fun x=>slow (.convStr x))
  (fun x=>slow (.idStr x))
  (fun t x=>slow (.mkIface t x))
  (fun f first captured=>slow (.mkFunc f first captured))
  oMkMap
  oMkSlice
  (fun n size x lo hi mx=>slow (.sliceArr n size x lo hi mx))
  (fun elem size x lo hi mx=>slow (.sliceSl elem size x lo hi mx))
  (fun x lo hi=>slow (.sliceStr x lo hi))
  oAddOff
  (fun agg off size x=>slow (.part agg off size x))
  (fun n size x i=>slow (.idxArr n size x i))
  oIdxSl
  (fun agg n size x i=>slow (.idxAgg agg n size x i))
  (fun x i=>slow (.idxStr x i))
  (fun key zero ok m k=>slow (.lookup key zero ok m k))
  (fun key m k v=>slow (.mapUpd key m k v))
  (fun key zero m k=>slow (.mapEntry key zero m k))
  (fun m s v=>slow (.entryStore m s v))
  oRangeStr
  (fun it=>slow (.nextStr it))
  oRangeMap
  oNextMap
  (fun it=>slow (.entryMap it))
  (slow .stop)
  (fun t zero ok x=>slow (.typeAssert t zero ok x))
  oExtract
  (fun n=>slow (.lenC n))
  (fun x=>slow (.lenStr x))
  oLenSl
  (fun x=>slow (.lenMap x))
  (fun x=>slow (.cap x))
  oAppend
  oCopy
  (fun zs x=>slow (.clearSl zs x))
  (fun x=>slow (.clearMap x))
  (fun key m k=>slow (.delete key m k))
  (fun isMax l=>slow (.minmax isMax l))
  oCall o
noncomputable def jumpK (j:AJump) (x:Prop) (y:Nat→Prop) (z:Prop):Prop:=AJump.rec (motive:=fun _=>Prop) x y z j
noncomputable def frK (fr:Fr) (k:Tree AV→List Pos→Option Pos→Prop):Prop:=Fr.rec (motive:=fun _=>Prop) k fr
noncomputable def isBoolK (v:AV) (t f:Prop):Prop:=match v with
  | .bool b=>ite' b t f
  | _=>False
noncomputable def setDstK (env:Tree AV) (d:Option Pos) (v:AV) (k:Tree AV→Prop):Prop :=
  Option.rec (motive:=fun _=>Prop) (k env) (fun p=>setK .undef p v env k) d
noncomputable def recheckK (env:Tree AV) (H:Heap) (l:List ARe) (x:Prop):Prop :=
  List.rec (motive:=fun _=>Prop) x (fun p l _=>ite' (recheck env H (p::l)) x False) l
noncomputable def guardK (env:Tree AV) (g:Option (Pos × Bool)) (x y:Prop):Prop :=
  Option.rec (motive:=fun _=>Prop) x (fun g=>ite' (guardOk env (some g)) x (ite' (guardDefd env (some g)) y False)) g
noncomputable def putArgsK (l:List AV):Pos→Tree AV→(Tree AV→Prop)→Prop :=
  List.rec (motive:=fun _=>Pos→Tree AV→(Tree AV→Prop)→Prop) (fun _ t k=>k t) (fun v _ ih p t k=>setK .undef p v t fun t=>succK p fun p=>ih p t k) l
noncomputable def readResK (env:Tree AV) (H:Heap) (l:List ARes):(List AV→Prop)→Prop :=
  List.rec (motive:=fun _=>(List AV→Prop)→Prop) (fun k=>k [])
    (fun r _ ih k=>ARes.rec (motive:=fun _=>Prop) (fun p=>getK .undef p env fun v=>ih fun l=>k (v::l))
      (fun p agg n=>getK .undef p env fun a=>optK (loadV H a n agg) fun v=>forceV v fun v=>ih fun l=>k (v::l)) r) l
noncomputable def resK (l:List AV) (k:AV→Prop):Prop:=List.rec (motive:=fun _=>Prop) (k (.tuple [])) (fun v m _=>List.rec (motive:=fun _=>Prop) (k v) (fun _ _ _=>k (.tuple l)) m) l
noncomputable def marksK (H:Heap) (l:List Pos) (k:Heap→Prop):Prop:=List.rec (motive:=fun _=>Prop) (k H) (fun i l _=>optK (takeMarks H (i::l)) k) l
abbrev LK:=AState→AJump→Nat→Tree AV→List Pos→ACode→ACode→Pos→Prop
noncomputable def objLoop (k:LK) (o:AObj):Prop :=
  AObj.rec (motive:=fun _=>Prop) False (fun _ _ _ _ _ _=>False) (fun _ _=>False) (fun _=>False) (fun _ _ _=>False) k (fun _=>False) (fun _ _ _ _=>False) o
noncomputable def loopK (H:Heap) (id:Pos) (k:LK):Prop:=hgetK H id (objLoop k)
noncomputable def stateK (st:AState) (ready busy other:Prop):Prop:=AState.rec (motive:=fun _=>Prop) ready busy other other st
abbrev CK:=Runs→Fr→Heap→Cont→Prop
noncomputable def cSkip:CK:=fun _ fr H K=>K .none fr H
noncomputable def cRegion (l:List AOper):CK:=fun ih fr H K=>ih.ops l fr H (K .none)
noncomputable def seqC (ih:Runs) (b:ACode) (K:Cont) (j:AJump) (fr:Fr) (H:Heap):Prop:=jumpK j (ih.exec b fr H K) (fun i=>K (.exit i) fr H) (K .ret fr H)
noncomputable def cSeq (a b:ACode):CK:=fun ih fr H K=>ih.exec a fr H (seqC ih b K)
noncomputable def cCond (c:Opd) (a b:ACode):CK:=fun ih fr H K=>frK fr fun env _ _=>gvK env c fun v=>isBoolK v (ih.exec a fr H K) (ih.exec b fr H K)
noncomputable def blockC (id:Nat) (K:Cont) (j:AJump) (fr:Fr) (H:Heap):Prop:=jumpK j (K .none fr H) (fun i=>ite' (Nat.beq i id) (K .none fr H) (K (.exit i) fr H)) (K .ret fr H)
noncomputable def cBlock (id:Nat) (b:ACode):CK:=fun ih fr H K=>ih.exec b fr H (blockC id K)
noncomputable def cLoop (b:ACode):CK:=fun ih fr H K=>ih.exec b fr H (seqC ih (.loop b) K)
noncomputable def rfEnd (fr:Fr) (l:Pos) (K:Cont) (H':Heap) (pend:AJump) (fn:Nat) (env:Tree AV) (ps:List Pos) (as bd:ACode) (d:Pos):Prop :=
  hsetK H' l (.loop .exhausted pend fn env ps as bd d) fun H''=>K pend fr H''
noncomputable def rfGo (ih:Runs) (env:Tree AV) (params:List Pos) (assign body:ACode) (fv:AV) (K:Cont) (fr:Fr) (H:Heap) (d:Pos):Prop :=
  hnewK H (.loop .ready .none 0 env params assign body d) fun l H =>
    ih.call fv [.yield l] H fun _ H'=>loopK H' l fun st pend fn env ps as bd d =>
      stateK st (rfEnd fr l K H' pend fn env ps as bd d) False (rfEnd fr l K H' pend fn env ps as bd d)
noncomputable def cRangeFunc (f:Opd) (params:List Pos) (assign body:ACode):CK:=fun ih fr H K=>frK fr fun env marks rnd=>gvK env f fun fv =>
  Option.rec (motive:=fun _=>Prop) (hnewK H (.deferred false) fun m H=>rfGo ih env params assign body fv K ⟨env,m::marks,rnd⟩ H m)
    (fun l=>loopK H l fun _ _ _ _ _ _ _ d=>rfGo ih env params assign body fv K fr H d) rnd
noncomputable def cExit (id:Nat):CK:=fun _ fr H K=>K (.exit id) fr H
noncomputable def cRet:CK:=fun _ fr H K=>K .ret fr H
noncomputable def overK (fr:Fr) (H:Heap) (K:Cont) (g:Tree AV→Heap→Option (Tree AV × Heap)):Prop :=
  frK fr fun env marks rnd=>optK (g env H) fun p=>Prod.rec (motive:=fun _=>Prop) (fun env H=>K .none ⟨env,marks,rnd⟩ H) p
noncomputable def cOver (tbl:Tree AFunc) (t:Nat):CK:=fun _ fr H K=>getNK .none tbl t fun g=>AFunc.rec (motive:=fun _=>Prop) False (fun _ _ _=>False) (fun _=>False) (overK fr H K) g
noncomputable def execStep (tbl:Tree AFunc) (c:ACode):CK:=ACode.rec (motive:=fun _=>CK) cSkip cRegion (fun a b _ _=>cSeq a b) (fun c a b _ _=>cCond c a b) (fun id b _=>cBlock id b) (fun b _=>cLoop b)
  (fun f ps a b _ _=>cRangeFunc f ps a b) cExit cRet (cOver tbl) c
noncomputable def showK (H:Heap) (l:List (Pos × AObj)) (k:Heap→Prop):Prop:=List.rec (motive:=fun _=>Prop) (k H) (fun p l _=>k (showAll H (p::l))) l
noncomputable def after (ih:Runs) (l:List AOper) (K:Fr→Heap→Prop) (dst:Option Pos) (re:List ARe) (env:Tree AV) (marks:List Pos) (rnd:Option Pos) (v:AV) (H:Heap):Prop :=
  setDstK env dst v fun env=>recheckK env H re (ih.ops l ⟨env,marks,rnd⟩ H K)
noncomputable def hidden (ih:Runs) (op:AOp) (env:Tree AV) (k:KV) (h:Heap × List (Pos × AObj)):Prop :=
  Prod.rec (motive:=fun _=>Prop) (fun H s=>opRun op ih env H fun v H=>k v (showAll H s)) h
noncomputable def runHid (ih:Runs) (op:AOp) (env:Tree AV) (H:Heap) (hide:List Pos) (k:KV):Prop :=
  List.rec (motive:=fun _=>Prop) (opRun op ih env H k) (fun p l _=>hidden ih op env k (hideAll env H (p::l))) hide
noncomputable def step3 (ih:Runs) (l:List AOper) (H:Heap) (K:Fr→Heap→Prop) (dst:Option Pos) (op:AOp) (guard:Option (Pos × Bool)) (hide:List Pos) (re:List ARe) (env:Tree AV) (marks:List Pos) (rnd:Option Pos):Prop :=
  guardK env guard (runHid ih op env H hide (after ih l K dst re env marks rnd)) (setDstK env dst .undef fun env=>ih.ops l ⟨env,marks,rnd⟩ H K)
noncomputable def step2 (ih:Runs) (l:List AOper) (fr:Fr) (H:Heap) (K:Fr→Heap→Prop) (dst:Option Pos) (op:AOp) (guard:Option (Pos × Bool)) (hide:List Pos) (re:List ARe):Prop :=
  frK fr (step3 ih l H K dst op guard hide re)
noncomputable def step1 (ih:Runs) (fr:Fr) (H:Heap) (K:Fr→Heap→Prop) (o:AOper) (l:List AOper) (_:Prop):Prop:=AOper.rec (motive:=fun _=>Prop) (step2 ih l fr H K) o
noncomputable def opsStep (ih:Runs) (l:List AOper) (fr:Fr) (H:Heap) (K:Fr→Heap→Prop):Prop:=List.rec (motive:=fun _=>Prop) (K fr H) (step1 ih fr H K) l
noncomputable def callFin (results:List ARes) (K:KV) (fr:Fr) (H:Heap):Prop:=frK fr fun env marks _=>marksK H marks fun H=>readResK env H results fun l=>resK l fun v=>K v H
noncomputable def callEnd (results:List ARes) (K:KV) (j:AJump) (fr:Fr) (H:Heap):Prop:=jumpK j (callFin results K fr H) (fun _=>False) (callFin results K fr H)
noncomputable def callCode (ih:Runs) (H:Heap) (K:KV) (all:List AV) (nt:Nat) (results:List ARes) (body:ACode):Prop :=
  ite' (Nat.ble (lenK all) nt) (putArgsK all .xH .leaf fun env=>ih.exec body ⟨env,[],none⟩ H (callEnd results K)) False
noncomputable def callPrim (H:Heap) (K:KV) (all:List AV) (g:List AV→Heap→Option (AV × Heap)):Prop :=
  optK (g all H) fun p=>Prod.rec (motive:=fun _=>Prop) (fun v H=>forceV v fun v=>K v H) p
noncomputable def callFn (tbl:Tree AFunc) (ih:Runs) (args:List AV) (H:Heap) (K:KV) (f:Nat) (first captured:List AV):Prop :=
  getNK .none tbl f fun g=>forceL (first++args++captured) fun all=>AFunc.rec (motive:=fun _=>Prop) False (callCode ih H K all) (callPrim H K all) (fun _=>False) g
noncomputable def yEnd (l:Pos) (K:KV) (j:AJump) (_:Fr) (H:Heap):Prop :=
  loopK H l fun _ _ fn env ps as bd d =>
    jumpK j (hsetK H l (.loop .ready .none fn env ps as bd d) fun H=>K (.bool true) H)
      (fun _=>hsetK H l (.loop .done j fn env ps as bd d) fun H=>K (.bool false) H)
      (hsetK H l (.loop .done j fn env ps as bd d) fun H=>K (.bool false) H)
noncomputable def yBody (ih:Runs) (l:Pos) (bd0:ACode) (K:KV) (fr:Fr) (H:Heap):Prop :=
  loopK H l fun st pend fn env ps as bd d=>stateK st
    (hsetK H l (.loop .busy pend fn env ps as bd d) fun H=>ih.exec bd0 fr H (yEnd l K)) False False
noncomputable def yAssigned (ih:Runs) (l:Pos) (bd0:ACode) (K:KV) (j:AJump) (fr:Fr) (H:Heap):Prop:=jumpK j (yBody ih l bd0 K fr H) (fun _=>False) False
noncomputable def callYield (ih:Runs) (args:List AV) (H:Heap) (K:KV) (l:Pos):Prop :=
  loopK H l fun st _ _ env ps as bd _=>stateK st
    (ite' (Nat.beq (lenK args) (lenK ps)) (ih.exec as ⟨putParams ps args env,[],some l⟩ H (yAssigned ih l bd K)) False) False False
noncomputable def callStep (tbl:Tree AFunc) (ih:Runs) (f:AV) (args:List AV) (H:Heap) (K:KV):Prop :=
  match f with
  | .func f first captured=>callFn tbl ih args H K f first captured
  | .yield l=>callYield ih args H K l
  | _=>False
noncomputable def runs (tbl:Tree AFunc) (n:Nat):Runs:=Nat.rec (motive:=fun _=>Runs)
  ⟨fun _ _ _ _=>False,fun _ _ _ _=>False,fun _ _ _ _=>False⟩
  (fun _ ih=>⟨fun c fr H K=>execStep tbl c ih fr H K,opsStep ih,callStep tbl ih⟩) n
end
end Go.Abs.K
