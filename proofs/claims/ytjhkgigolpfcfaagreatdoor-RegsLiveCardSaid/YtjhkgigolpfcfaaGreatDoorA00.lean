/- A part of the proof. No conditions. -/
import GoSem.Step
set_option linter.all false
open Nat renaming beq->akb,blt->akv,ble->ak2
open BitVec renaming ofInt->ak5
noncomputable section
namespace Go.am
abbrev ae5:=@Option.bind_eq_bind
abbrev akt:=@Option.map_some
abbrev akQ:=@Option.getD_some
abbrev alr:=@Option.bind_some
abbrev aeV:=@List.mem_cons
abbrev agB:=@List.getElem_mem
abbrev ahp:=@List.mem_append
abbrev aj2:=@List.append_assoc
abbrev aj7:=@List.map_cons
abbrev aj8:=@List.length_append
abbrev aj9:=@List.drop_eq_getElem_cons
abbrev aka:=@List.getElem_of_mem
abbrev akd:=@List.take_append_getElem
abbrev akf:=@List.mem_append_left
abbrev aki:=@List.not_mem_nil
abbrev akj:=@List.perm_middle
abbrev akk:=@List.mem_map
abbrev akl:=@List.take_of_length_le
abbrev akm:=@List.getD_eq_getElem?_getD
abbrev akp:=@List.mem_map_of_mem
abbrev akq:=@List.mem_append_right
abbrev aks:=@List.getElem?_map
abbrev akD:=@List.flatMap_append
abbrev akE:=@List.map_append
abbrev akH:=@List.perm_append_comm
abbrev akK:=@List.flatMap_singleton
abbrev akM:=@List.eq_nil_of_length_eq_zero
abbrev akN:=@List.getElem_map
abbrev akP:=@List.getElem?_eq_getElem
abbrev akR:=@List.getElem?_eq_some_iff
abbrev akT:=@List.append_nil
abbrev akV:=@List.cons_append
abbrev akZ:=@List.mem_flatMap
abbrev ak0:=@List.nil_append
abbrev ak3:=@List.mem_range
abbrev ak4:=@List.length_set
abbrev ak7:=@List.take_length
abbrev ak8:=@List.getElem?_replicate
abbrev ak9:=@List.length_replicate
abbrev ala:=@List.take_append_drop
abbrev alg:=@List.ext_getElem
abbrev ali:=@List.map_nil
abbrev alk:=@List.map_congr_left
abbrev alm:=@List.take_zero
abbrev aln:=@List.all_eq_true
abbrev alp:=@List.flatMap_cons
abbrev als:=@List.take_succ_cons
abbrev alw:=@List.mapM_cons
abbrev alx:=@List.map_map
abbrev alz:=@List.map_replicate
abbrev alA:=@List.getElem_range
abbrev alF:=@List.mem_filter
abbrev aes:=@Bool.false_eq_true
abbrev aj6:=@Bool.and_eq_true
abbrev aku:=@Bool.not_true
abbrev akU:=@Bool.not_eq_true'
abbrev alf:=@Bool.or_eq_true
abbrev alE:=@Bool.eq_iff_iff
abbrev alK:=@Bool.and_self
abbrev afb:=@Nat.le_refl
abbrev akh:=@Nat.zero_add
abbrev ako:=@Nat.lt_of_lt_of_le
abbrev aky:=@Nat.mul_le_mul_right
abbrev akW:=@Nat.lt_or_ge
abbrev ald:=@Nat.beq_refl
abbrev alt:=@Nat.mul_one
abbrev alB:=@Nat.add_mul
abbrev alG:=@Nat.add_zero
abbrev alJ:=@Nat.sub_zero
abbrev aj1:=@Prod.mk.injEq
abbrev aj3:=@Int.toNat_natCast
abbrev aj5:=@Int.ofNat_eq_natCast
abbrev akn:=@List.cons.injEq
abbrev akr:=@Array.getElem?_setIfInBounds
abbrev akG:=@Array.length_toList
abbrev alc:=@Array.getElem?_toList
abbrev ale:=@Array.getElem?_push
abbrev akx:=@Classical.byContradiction
abbrev akL:=@List.Sublist.refl
abbrev alM:=@List.Perm.refl
abbrev alI:=@Ne.symm
end Go.am
namespace Go.am
theorem af{p:Prop}(h:p:=by omega):p:=h
theorem bA{p:Prop}(h:p:=by decide):p:=h
theorem aB{p:Prop}(h:p:=by simp):p:=h
theorem aq.{u}{c:Prop}{h:Decidable c}(k:¬c){g:Sort u}{t e:g}:ite c t e=e:=if_neg k
theorem aK.{u}{c:Prop}{h:Decidable c}(k:c){g:Sort u}{t e:g}:ite c t e=t:=if_pos k
theorem bq.{u}{g:Sort u}{h:Decidable True}(t e:g):ite True t e=t:=if_true t e
theorem bP.{u}{g:Sort u}{h:Decidable False}(t e:g):ite False t e=e:=if_false t e
inductive ab where
 |xH|xO(p:ab)|xI(p:ab)
 deriving DecidableEq
def ab.succ:ab->ab
 |.xH=>.xO .xH
 |.xO p=>.xI p
 |.xI p=>.xO p.succ
def ab.dF:Nat->ab
 |0=>.xH
 |t+1=>(ab.dF t).succ
inductive ap(α:Type)where
 |aL
 |node(l:ap α)(v:α)(r:ap α)
namespace ap
variable{g:Type}
def left:ap g->ap g
 |.aL=>.aL
 |.node l _ _=>l
def right:ap g->ap g
 |.aL=>.aL
 |.node _ _ r=>r
def val(d:g):ap g->g
 |.aL=>d
 |.node _ v _=>v
def get(d:g):ab->ap g->g
 |.xH,t=>t.val d
 |.xO p,t=>get d p t.left
 |.xI p,t=>get d p t.right
def set(d:g):ab->g->ap g->ap g
 |.xH,x,t=>.node t.left x t.right
 |.xO p,x,t=>.node (set d p x t.left) (t.val d) t.right
 |.xI p,x,t=>.node t.left (t.val d) (set d p x t.right)
def bw(d:g):ap g->Nat->g
 |.aL,_=>d
 |.node _ v _,0=>v
 |.node l _ r,m+1=>if m % 2=0 then bw d l (m/2)else bw d r (m/2)
def oH(d:g):(a:Nat)->Nat->g->ap g->ap g
 |_,0,x,t=>.node t.left x t.right
 |0,_+1,_,t=>t
 |f+1,m+1,x,t=>
  if m % 2=0 then .node (oH d f (m/2) x t.left) (t.val d) t.right
  else .node t.left (t.val d) (oH d f (m/2) x t.right)
end ap
inductive AV where
 |tuple(l:List AV)
 |agg(l:List AV)
 |bool(b:Bool)
 |int(k:Nat)(n:Int)
 |str(s:List Nat)
 |az(id:ab)(off:Nat)
 |lS
 |slice(id:ab)(off len cap:Nat)(exact:Bool)
 |aS
 |map(id:ab)
 |cY
 |func(f:Nat)(first captured:List AV)
 |yield(id:ab)
 |nilFunc
 |iface(t:Nat)(v:AV)
 |nilIface
 |co
 deriving Inhabited
abbrev AV.alR:AV:=.tuple []
def AV.cells:AV->List AV
 |.agg l=>l
 |v=>[v]
def AV.ee:AV->Bool
 |.agg _|.tuple _|.co=>false
 |_=>true
def AV.bB:AV->Bool
 |.co=>false
 |_=>true
def kc:IntKind->Nat
 |.i8=>0|.i16=>1|.i32=>2|.i64=>3|.u8=>4|.u16=>5|.u32=>6|.u64=>7
def ck:Nat->IntKind
 |0=>.i8|1=>.i16|2=>.i32|3=>.i64|4=>.u8|5=>.u16|6=>.u32|_=>.u64
inductive aJ where
 |t(p:ab)
 |c(v:AV)
inductive eE where
 |bool|int|str|az|slice|map|func
 |iface(const empty:Bool)
 |fi(l:List (Nat×Nat×Bool×eE))
inductive bW where
 |bg(x:aJ)
 |pick(c a b:aJ)
 |box(elem:Nat)(x:aJ)
 |alloc(elem:Nat)(zs:List AV)
 |build(zs:List AV)(fi:List (Nat×Nat×aJ))
 |buildSlice(elem len:Nat)(zs:List AV)(fi:List (Nat×Nat×aJ))
 |aW(a:aJ)
 |gw(n:Nat)(a:aJ)
 |store(n:Nat)(a x:aJ)
 |nilCheck(x:aJ)
 |arith(op:BinOp)(k:Nat)(x y:aJ)
 |shift(op:BinOp)(x y:aJ)
 |iE(op:BinOp)(x y:aJ)
 |eq(neg:Bool)(d:eE)(x y:aJ)
 |unary(op:UnOp)(x:aJ)
 |kX(k:Nat)(x:aJ)
 |xf(elem:Nat)(x:aJ)
 |xg(x:aJ)
 |A7(x:aJ)
 |lT(t:Nat)(x:aJ)
 |iP(f:Nat)(first captured:List aJ)
 |jK
 |jL(elem bytes size:Nat)(zs:List AV)(len cap:aJ)
 |zc(n size:Nat)(x:aJ)(lo hi mx:Option aJ)
 |im(elem size:Nat)(x:aJ)(lo hi mx:Option aJ)
 |xi(x:aJ)(lo hi:Option aJ)
 |j6(off:Nat)(x:aJ)
 |part(agg:Bool)(off size:Nat)(x:aJ)
 |sJ(n size:Nat)(x i:aJ)
 |dG(size:Nat)(x i:aJ)
 |A8(agg:Bool)(n size:Nat)(x i:aJ)
 |nu(x i:aJ)
 |lookup(key:eE)(zero:AV)(ok:Bool)(m k:aJ)
 |jy(key:eE)(m k v:aJ)
 |mapEntry(key:eE)(zero:AV)(m k:aJ)
 |entryStore(m s v:aJ)
 |rF(x:aJ)
 |vJ(it:aJ)
 |pe(x:aJ)
 |lU(it:aJ)
 |um(it:aJ)
 |pM
 |typeAssert(t:Nat)(zero:AV)(ok:Bool)(x:aJ)
 |extract(x:aJ)(i:Nat)
 |qC(n:Nat)
 |kH(x:aJ)
 |j7(x:aJ)
 |xj(x:aJ)
 |cap(x:aJ)
 |append(elem bytes size:Nat)(zs:List AV)(ofMake:Bool)(s x:aJ)
 |copy(size:Nat)(d s:aJ)
 |zd(zs:List AV)(x:aJ)
 |ze(x:aJ)
 |delete(key:eE)(m k:aJ)
 |qD(isMax:Bool)(l:List aJ)
 |call(f:aJ)(args:List aJ)
structure jo where
 dst:ab
 op:bW
 guard:Option (ab×Bool)
structure be where
 dst:Option ab
 op:bW
 guard:Option (ab×Bool)
 jM:List ab
 re:List jo
inductive bt where
 |skip
 |region(l:List be)
 |seq(a b:bt)
 |cond(c:aJ)(a b:bt)
 |block(id:Nat)(b:bt)
 |loop(b:bt)
 |rangeFunc(f:aJ)(params:List ab)(assign body:bt)
 |exit(id:Nat)
 |ret
 |ez(t:Nat)
inductive cP where
 |none
 |exit(id:Nat)
 |ret
inductive sK where
 |ready|busy|done|exhausted
structure aT where
 key:AV
 val:AV
 born:Nat
inductive cq where
 |none
 |cells(c:ap AV)(n:Nat)(elem:Nat)(rw:Bool)(aM:List ab)(fz:Nat)
 |map(es:List aT)(clock:Nat)
 |dI(es:List aT)
 |pf(s:List Nat)(rest:List Nat)(pos:Nat)
 |loop(st:sK)(cB:cP)(fn:Nat)(aa:ap AV)(params:List ab)(assign body:bt)(defers:ab)
 |deferred(taken:Bool)
 |mapIter(m:Option ab)(since:Nat)(seen:List Nat)(last:Nat)
 deriving Inhabited
structure ai where
 t:ap cq
 next:ab
def ai.get(H:ai)(i:ab):cq:=H.t.get .none i
def ai.set(H:ai)(i:ab)(o:cq):ai:=⟨H.t.set .none i o,H.next⟩
def ai.new(H:ai)(o:cq):ai:=⟨H.t.set .none H.next o,H.next.succ⟩
def ai.gh(H:ai):List ab->ai
 |[]=>H
 |i::l=>(H.set i .none).gh l
inductive iW where
 |tmp(p:ab)
 |cell(p:ab)(agg:Bool)(n:Nat)
inductive aG where
 |none
 |code(nt:Nat)(results:List iW)(body:bt)
 |ix(f:List AV->ai->Option (AV×ai))
 |ez(f:ap AV->ai->Option (ap AV×ai))
end Go.am
namespace Go.am
section
variable{p:Type}(h:p)(ask:Nat->(Nat->p)->p)
def gv(aa:ap AV)(x:aJ):AV:=
 match x with
 |.t a=>aa.get .alR a
 |.c v=>v
def iI(c:ap AV)(n off:Nat):Nat->Option (List AV)
 |0=>some []
 |m+1=>if off<n then(match iI c n (off+1) m with|some l=>some (c.bw .alR off::l)|none=>none)else none
def fX(c:ap AV)(off:Nat):List AV->ap AV
 |[]=>c
 |v::l=>fX (c.oH .alR off off v) (off+1) l
def db(l:List AV):ap AV:=fX .aL 0 l
def fE(H:ai)(id:ab)(off m:Nat):Option (List AV):=
 match H.get id with
 |.cells c n _ _ _ _=>iI c n off m
 |_=>none
def dS:List AV->Bool
 |[]=>true
 |v::l=>v.ee&&dS l
def iX(H:ai)(id:ab)(off:Nat)(l:List AV):Option ai:=
 match H.get id with
 |.cells c n e true aM fz=>
  if decide (fz<=off)&&decide (off+l.length<=n)&&dS l then some ((H.gh aM).set id (.cells (fX c off l) n e true [] fz))else none
 |_=>none
def j8:List Nat->List Nat->Bool
 |[],[]=>true
 |a::l,b::m=>akb a b&&j8 l m
 |_,_=>false
def rG:List Nat->List Nat->Bool
 |_,[]=>false
 |[],_::_=>true
 |a::l,b::m=>akv a b||(akb a b&&rG l m)
def ab.beq:ab->ab->Bool
 |.xH,.xH=>true
 |.xO a,.xO q=>ab.beq a q
 |.xI a,.xI q=>ab.beq a q
 |_,_=>false
def iQ:Int->Int->Bool
 |.ofNat a,.ofNat b=>akb a b
 |.negSucc a,.negSucc b=>akb a b
 |_,_=>false
def lV:Int->Int->Bool
 |.ofNat a,.ofNat b=>akv a b
 |.negSucc a,.negSucc b=>akv b a
 |.negSucc _,.ofNat _=>true
 |.ofNat _,.negSucc _=>false
def uo(agg:Bool)(l:List AV)(off size:Nat):Option AV:=
 if agg then some (.agg ((l.drop off).take size))else(l.drop off).head?
def eA:(c:Nat)->eE->AV->AV->Option Bool
 |_,.bool,.bool a,.bool b=>some (a==b)
 |_,.int,.int k a,.int m b=>if k=m then some (iQ a b)else none
 |_,.str,.str a,.str b=>some (j8 a b)
 |_,.az,.lS,.lS=>some true
 |_,.az,.lS,.az _ _=>some false
 |_,.az,.az _ _,.lS=>some false
 |_,.az,.az a i,.az b j=>if ab.beq a b then some (akb i j)else none
 |_,.slice,.aS,.aS=>some true
 |_,.slice,.aS,.slice .. =>some false
 |_,.slice,.slice ..,.aS=>some false
 |_,.map,.cY,.cY=>some true
 |_,.map,.cY,.map _=>some false
 |_,.map,.map _,.cY=>some false
 |_,.func,.nilFunc,.nilFunc=>some true
 |_,.func,.nilFunc,.func .. =>some false
 |_,.func,.func ..,.nilFunc=>some false
 |_,.func,.nilFunc,.yield _=>some false
 |_,.func,.yield _,.nilFunc=>some false
 |_,.iface const empty,.nilIface,.nilIface=>if const||empty then some true else none
 |_,.iface _ _,.nilIface,.iface _ _=>some false
 |_,.iface _ _,.iface _ _,.nilIface=>some false
 |_,.iface _ _,.iface t _,.iface u _=>if akb t u then none else some false
 |f+1,.fi l,.agg e,.agg g=>go f e g l
 |_,_,_,_=>none
where
 go:(c:Nat)->List AV->List AV->List (Nat×Nat×Bool×eE)->Option Bool
  |_,_,_,[]=>some true
  |0,_,_,_::_=>none
  |f+1,e,g,(off,size,agg,d)::l=>
   match uo agg e off size,uo agg g off size with
   |some x,some y=>
    match eA f d x y with
    |some true=>go f e g l
    |some false=>some false
    |none=>none
   |_,_=>none
def ny(k:Nat)(n:Int):Int:=(ck k).wrap n
def iJ(k:Nat)(n:Int):Int:=
 match k,n with
 |3,.ofNat m=>if akv m 9223372036854775808 then .ofNat m else ny 3 (.ofNat m)
 |3,.negSucc m=>if akv m 9223372036854775808 then .negSucc m else ny 3 (.negSucc m)
 |4,.ofNat m=>if akv m 256 then .ofNat m else ny 4 (.ofNat m)
 |k,n=>ny k n
def iK(op:BinOp)(k:Nat)(a b:Int):Option AV:=
 match op with
 |.add=>some (.int k (iJ k (a+b)))
 |.sub=>some (.int k (iJ k (a - b)))
 |.mul=>some (.int k (iJ k (a*b)))
 |.quo=>if b=0 then none else some (.int k (iJ k (a.tdiv b)))
 |.rem=>if b=0 then none else some (.int k (a.tmod b))
 |.and=>some (.int k (ny k (ak5 (ck k).bits a&&&ak5 (ck k).bits b).toNat))
 |.or=>some (.int k (ny k (ak5 (ck k).bits a|||ak5 (ck k).bits b).toNat))
 |.xor=>some (.int k (ny k (ak5 (ck k).bits a^^^ak5 (ck k).bits b).toNat))
 |.andNot=>some (.int k (ny k (ak5 (ck k).bits a&&& ~~~ak5 (ck k).bits b).toNat))
 |.eql=>some (.bool (iQ a b))
 |.neq=>some (.bool (!iQ a b))
 |.lss=>some (.bool (lV a b))
 |.leq=>some (.bool (!lV b a))
 |.gtr=>some (.bool (lV b a))
 |.geq=>some (.bool (!lV a b))
 |_=>none
def A9(op:BinOp)(k:Nat)(x y:AV):Option AV:=
 match x,y with
 |.int j a,.int l b=>if akb j k&&akb l k then iK op k a b else none
 |_,_=>none
def De(op:BinOp)(x y:AV):Option AV:=
 match x,y with
 |.int k a,.int _ (.ofNat b)=>
  let n:=min b (ck k).bits
  match op with
  |.shl=>some (.int k (iJ k (a*2^n)))
  |.shr=>some (.int k (a.fdiv (2^n)))
  |_=>none
 |_,_=>none
def Ba(op:BinOp)(x y:AV):Option AV:=
 match x,y with
 |.str a,.str b=>
  match op with
  |.add=>if a.length+b.length<4294967296 then some (.str (a++b))else none
  |.eql=>some (.bool (j8 a b))
  |.neq=>some (.bool (!j8 a b))
  |.lss=>some (.bool (rG a b))
  |.leq=>some (.bool (!rG b a))
  |.gtr=>some (.bool (rG b a))
  |.geq=>some (.bool (!rG a b))
  |_=>none
 |_,_=>none
def Df(op:UnOp)(x:AV):Option AV:=
 match op,x with
 |.neg,.int k n=>some (.int k (iJ k (0 - n)))
 |.xor,.int k n=>iK .xor k (if(ck k).signed then -1 else(ck k).max) n
 |.not,.bool b=>some (.bool !b)
 |_,_=>none
def uq(l:List AV):(off:Nat)->List AV->Option (List AV)
 |0,[]=>some l
 |0,v::a=>match l with
  |[]=>none
  |_::l=>match uq l 0 a with|some b=>some (v::b)|none=>none
 |off+1,a=>match l with
  |[]=>none
  |x::l=>match uq l off a with|some b=>some (x::b)|none=>none
def oI(aa:ap AV)(l:List AV):List (Nat×Nat×aJ)->Option (List AV)
 |[]=>some l
 |(off,size,x)::a=>
  let b:=(gv aa x).cells
  if(gv aa x).bB&&decide (b.length=size)then(match uq l off b with|some c=>oI aa c a|none=>none)else none
def fO(a:List AV):Nat->List AV
 |0=>[]
 |n+1=>a++fO a n
def oJ(x:AV)(y:Nat):Option Nat:=
 match x with
 |.int _ (.ofNat i)=>if ak2 i y then some i else none
 |_=>none
def jz(aa:ap AV)(x:Option aJ)(d y:Nat):Option Nat:=
 match x with
 |some x=>oJ (gv aa x) y
 |none=>some d
def findKey(d:eE)(k:AV):List aT->Nat->Option (Option (Nat×AV))
 |[],_=>some none
 |e::es,i=>
  match eA 64 d k e.key with
  |some true=>some (some (i,e.val))
  |some false=>findKey d k es (i+1)
  |none=>none
def ur:eE->Bool
 |.int|.str|.bool=>true
 |_=>false
def gJ(d:eE)(k:AV)(es:List aT):Option (Option AV):=if ur d then go es else none
where
 go:List aT->Option (Option AV)
  |[]=>some none
  |e::es=>match eA 64 d k e.key,go es with
   |some true,some none=>some (some e.val)
   |some false,some r=>some r
   |_,_=>none
def mM(d:eE)(k:AV)(e:aT):Bool:=
 match eA 64 d k e.key with
 |some b=>b
 |none=>false
def lW(d:eE)(k v:AV):List aT->List aT
 |[]=>[]
 |e::es=>(if mM d k e then{e with key:=k,val:=v}else e)::lW d k v es
def mN(d:eE)(k:AV):List aT->List aT
 |[]=>[]
 |e::es=>if mM d k e then mN d k es else e::mN d k es
def kY(v:AV)(k:AV):List aT->Nat->List aT
 |[],_=>[]
 |e::es,0=>{e with key:=k,val:=v}::es
 |e::es,i+1=>e::kY v k es i
def pN:List aT->Nat->List aT
 |[],_=>[]
 |_::es,0=>es
 |e::es,i+1=>e::pN es i
def vK:List aT->Nat->Nat
 |[],_=>0
 |e::_,0=>e.born
 |_::es,i+1=>vK es i
def qE(b:Nat):List aT->Nat->Option Nat
 |[],_=>none
 |e::es,i=>if akb e.born b then some i else qE b es (i+1)
def je(H:ai)(size:Nat)(x:AV):Option (Nat×List AV):=
 match x with
 |.aS=>some (0,[])
 |.slice id off len _ _=>match fE H id off (len*size)with|some l=>some (len,l)|none=>none
 |.str s=>if akb size 1 then some (s.length,s.map λn=>.int 4 (.ofNat n))else none
 |_=>none
def fw(n:Nat):Bool:=ak2 n 70368744177664
def kI(b bytes size:Nat)(H:ai)(s:AV)(n:Nat)(l:List AV):Option (AV×ai):=
 if !dS l then none else
 match s with
 |.aS=>
  if akb n 0 then some (.aS,H)
  else if fw (n*bytes)&&fw n then some (.slice H.next 0 n n false,H.new (.cells (db l) (n*size) b true [] 0))else none
 |.slice id off len cap exact=>
  let a:=len+n
  if ak2 a cap then
   if akb n 0 then some (.slice id off a cap exact,H)else
   match iX H id (off+len*size) l with
   |some d=>some (.slice id off a cap exact,d)
   |none=>none
  else if !(fw (a*bytes)&&fw a)then none else
   match H.get id with
   |.cells c m e rw aM fz=>
    match iI c m off (len*size)with
    |none=>none
    |some dT=>
     if exact then some (.slice H.next 0 a a false,H.new (.cells (db (dT++l)) (a*size) b true [] 0))
     else if rw&&akb len cap&&akb (off+cap*size) m&&akb e b&&ak2 fz m then
      some (.slice H.next 0 a a false,(H.set id (.cells c m e false aM fz)).new (.cells (db (dT++l)) (a*size) b true (id::aM) (fz - off)))
     else none
   |_=>none
 |_=>none
def jp(H:ai)(a:AV)(n:Nat)(agg:Bool):Option AV:=
 match a with
 |.az id off=>
  match fE H id off n with
  |some l=>if agg then some (.agg l)else l.head?
  |none=>none
 |_=>none
def zf(c:Bool):AV->List AV->Option AV
 |x,[]=>some x
 |.int k a,.int l b::d=>if akb k l then zf c (.int k (if c then(if lV a b then b else a)else(if lV b a then b else a))) d else none
 |_,_=>none
def KA:AV->Option Nat
 |.int 4 (.ofNat n)=>if akv n 256 then some n else none
 |_=>none
def Bb:List AV->Option (List Nat)
 |[]=>some []
 |v::l=>match KA v,Bb l with
  |some n,some r=>some (n::r)
  |_,_=>none
def Bc:List Nat->Nat->Option Nat
 |[],_=>none
 |a::_,0=>some a
 |_::l,i+1=>Bc l i
def qF:List AV->Nat->Option AV
 |[],_=>none
 |a::_,0=>some a
 |_::l,i+1=>qF l i
def sL:(a:Nat)->eE->AV->Bool
 |_,.bool,.bool _=>true
 |_,.int,.int _ _=>true
 |_,.str,.str _=>true
 |_,.az,.az _ _=>true
 |_,.az,.lS=>true
 |f+1,.fi c,.agg b=>go f b c
 |_,_,_=>false
where
 go:(a:Nat)->List AV->List (Nat×Nat×Bool×eE)->Bool
  |_,_,[]=>true
  |0,_,_::_=>false
  |f+1,b,(off,size,agg,d)::c=>match uo agg b off size with
   |some x=>sL f d x&&go f b c
   |none=>false
def jA(d:eE)(k:AV):Bool:=
 match d with
 |.fi _=>sL 64 d k
 |.iface _ _=>false
 |_=>true
def FD:AV->AV->Bool
 |.bool a,.bool b=>a==b
 |.int j a,.int k b=>akb j k&&iQ a b
 |.str a,.str b=>j8 a b
 |_,_=>false
def zg:List AV->List AV->Bool
 |[],[]=>true
 |a::l,b::m=>FD a b&&zg l m
 |_,_=>false
def xk(d:eE)(k:AV):List aT->Nat->Bool
 |[],_=>false
 |e::_,0=>match d,k,e.key with
  |.fi _,.agg l,.agg m=>zg l m
  |.fi _,_,_=>false
  |_,_,_=>true
 |_::es,i+1=>xk d k es i
def sM(H:ai)(id:ab)(a:Nat):Bool:=
 match H.get id with
 |.cells _ _ e _ _ _=>akb e a
 |_=>false
def u8(s:List Nat)(a:Nat):Nat×Nat:=Utf8.decode ⟨(s.map UInt8.ofNat).toArray⟩ a
def aE(o:bW)(aa:ap AV)(H:ai):Option (AV×ai):=
 let pure(v:AV):Option (AV×ai):=some (v,H)
 let r(v:Option AV):Option (AV×ai):=v.map λv=>(v,H)
 match o with
 |.bg x=>pure (gv aa x)
 |.pick c a b=>match gv aa c with
  |.bool t=>pure (if t then gv aa a else gv aa b)
  |_=>none
 |.box q x=>
  let l:=(gv aa x).cells
  if dS l then some (.az H.next 0,H.new (.cells (db l) l.length q true [] 0))else none
 |.alloc q A=>some (.az H.next 0,H.new (.cells (db A) A.length q true [] 0))
 |.build A fi=>r ((oI aa A fi).map .agg)
 |.buildSlice q len A fi=>
  match oI aa (fO A len) fi with
  |some l=>if dS l then some (.slice H.next 0 len len true,H.new (.cells (db l) l.length q true [] 0))else none
  |none=>none
 |.aW a=>r (jp H (gv aa a) 1 false)
 |.gw n a=>r (jp H (gv aa a) n true)
 |.store n a x=>
  match gv aa a with
  |.az id off=>
   let l:=(gv aa x).cells
   if l.length=n then(match iX H id off l with|some E=>some (.alR,E)|none=>none)else none
  |_=>none
 |.nilCheck x=>match gv aa x with
  |.az id off=>pure (.az id off)
  |.func f a b=>pure (.func f a b)
  |.yield l=>pure (.yield l)
  |.iface t v=>pure (.iface t v)
  |.map m=>pure (.map m)
  |.slice a b c d e=>pure (.slice a b c d e)
  |_=>none
 |.arith op k x y=>r (A9 op k (gv aa x) (gv aa y))
 |.shift op x y=>r (De op (gv aa x) (gv aa y))
 |.iE op x y=>r (Ba op (gv aa x) (gv aa y))
 |.eq neg d x y=>r ((eA 64 d (gv aa x) (gv aa y)).map λb=>.bool (b !=neg))
 |.unary op x=>r (Df op (gv aa x))
 |.kX k x=>match gv aa x with
  |.int _ n=>pure (.int k (iJ k n))
  |_=>none
 |.xf q x=>match gv aa x with
  |.str s=>some (.slice H.next 0 s.length s.length false,H.new (.cells (db (s.map λn=>.int 4 (.ofNat n))) s.length q true [] 0))
  |_=>none
 |.A7 x=>match gv aa x with
  |.str s=>pure (.str s)
  |_=>none
 |.xg x=>match gv aa x with
  |.aS=>pure (.str [])
  |.slice id off len _ _=>match fE H id off len with
   |some l=>(Bb l).map λs=>(.str s,H)
   |none=>none
  |_=>none
 |.lT t x=>pure (.iface t (gv aa x))
 |.iP f a b=>pure (.func f (a.map (gv aa)) (b.map (gv aa)))
 |.jK=>some (.map H.next,H.new (.map [] 0))
 |.jL q bytes size A len cap=>
  match gv aa len,gv aa cap with
  |.int 3 (.ofNat l),.int 3 (.ofNat c)=>
   if ak2 l c&&fw (c*bytes)&&fw c then some (.slice H.next 0 l c true,H.new (.cells (db (fO A c)) (c*size) q true [] 0))else none
  |_,_=>none
 |.zc n size x lo hi D=>
  match gv aa x with
  |.az id off=>do
   let m<-jz aa D n n
   let I<-jz aa hi n m
   let l<-jz aa lo 0 I
   some (.slice id (if m=l then off else off+l*size) (I - l) (m - l) true,H)
  |_=>none
 |.im q size x lo hi D=>
  match gv aa x with
  |.aS=>do
   let m<-jz aa D 0 0
   let I<-jz aa hi 0 m
   let _<-jz aa lo 0 I
   some (.aS,H)
  |.slice id off len cap exact=>do
   let m<-jz aa D cap cap
   let I<-jz aa hi len m
   let l<-jz aa lo 0 I
   if exact||D.isSome||lo.isNone||sM H id q then
    some (.slice id (if exact&&m=l then off else off+l*size) (I - l) (m - l) (exact||D.isSome),H)
   else none
  |_=>none
 |.xi x lo hi=>
  match gv aa x with
  |.str s=>do
   let n:=s.length
   let I<-jz aa hi n n
   let l<-jz aa lo 0 I
   some (.str ((s.drop l).take (I - l)),H)
  |_=>none
 |.j6 off x=>match gv aa x with
  |.az id o=>pure (.az id (o+off))
  |_=>none
 |.part agg off size x=>match gv aa x with
  |.agg l=>r (uo agg l off size)
  |_=>none
 |.sJ n size x i=>match gv aa x,gv aa i with
  |.az id o,.int _ (.ofNat j)=>if akv j n then pure (.az id (o+j*size))else none
  |_,_=>none
 |.dG size x i=>match gv aa x,gv aa i with
  |.slice id o len _ _,.int _ (.ofNat j)=>if akv j len then pure (.az id (o+j*size))else none
  |_,_=>none
 |.A8 agg n size x i=>match gv aa x,gv aa i with
  |.agg l,.int _ (.ofNat j)=>if akv j n then r (uo agg l (j*size) size)else none
  |_,_=>none
 |.nu x i=>match gv aa x,gv aa i with
  |.str s,.int _ (.ofNat j)=>r ((Bc s j).map λn=>.int 4 (.ofNat n))
  |_,_=>none
 |.lookup key zero ok m k=>
  if !jA key (gv aa k)then none else
  let aA(v:AV)(b:Bool):Option (AV×ai):=pure (if ok then .tuple [v,.bool b]else v)
  match gv aa m with
  |.cY=>aA zero false
  |.map id=>match H.get id with
   |.map es _=>match findKey key (gv aa k) es 0 with
    |some (some (_,v))=>aA v true
    |some none=>aA zero false
    |none=>none
   |.dI es=>match gJ key (gv aa k) es with
    |some (some v)=>aA v true
    |some none=>aA zero false
    |none=>none
   |_=>none
  |_=>none
 |.jy key m k v=>
  if !jA key (gv aa k)then none else
  match gv aa m with
  |.map id=>match H.get id with
   |.map es g=>match findKey key (gv aa k) es 0 with
    |some (some (i,_))=>if xk key (gv aa k) es i then some (.alR,H.set id (.map (kY (gv aa v) (gv aa k) es i) g))else none
    |some none=>some (.alR,H.set id (.map (es++[⟨gv aa k,gv aa v,g⟩]) (g+1)))
    |none=>none
   |.dI es=>match gJ key (gv aa k) es with
    |some (some _)=>some (.alR,H.set id (.dI (lW key (gv aa k) (gv aa v) es)))
    |some none=>some (.alR,H.set id (.dI (es++[⟨gv aa k,gv aa v,0⟩])))
    |none=>none
   |_=>none
  |_=>none
 |.mapEntry key zero m k=>
  if !jA key (gv aa k)then none else
  match gv aa m with
  |.map id=>match H.get id with
   |.map es g=>match findKey key (gv aa k) es 0 with
    |some (some (i,v))=>if xk key (gv aa k) es i then some (.tuple [v,.int 3 (.ofNat (vK es i))],H.set id (.map (kY v (gv aa k) es i) g))else none
    |some none=>some (.tuple [zero,.int 3 (.ofNat g)],H.set id (.map (es++[⟨gv aa k,zero,g⟩]) (g+1)))
    |none=>none
   |_=>none
  |_=>none
 |.entryStore m s v=>
  match gv aa m,gv aa s with
  |.map id,.int _ (.ofNat b)=>match H.get id with
   |.map es g=>match qE b es 0 with
    |some i=>some (.alR,H.set id (.map (es.modify i λe=>{e with val:=gv aa v}) g))
    |none=>none
   |_=>none
  |_,_=>none
 |.rF x=>match gv aa x with
  |.str s=>some (.az H.next 0,H.new (.pf s s 0))
  |_=>none
 |.vJ G=>match gv aa G with
  |.az id 0=>match H.get id with
   |.pf s z w=>match z with
    |[]=>pure (.tuple [.bool false])
    |c::z=>if akv c 128 then some (.tuple [.bool true,.int 3 (.ofNat w),.int 2 (.ofNat c)],H.set id (.pf s z (w+1)))else some (.tuple [.bool true,.int 3 (.ofNat w),.int 2 (.ofNat (u8 s w).1)],H.set id (.pf s (s.drop (w+(u8 s w).2)) (w+(u8 s w).2)))
   |_=>none
  |_=>none
 |.pe x=>match gv aa x with
  |.cY=>some (.az H.next 0,H.new (.mapIter none 0 [] 0))
  |.map m=>match H.get m with
   |.map _ g=>some (.az H.next 0,H.new (.mapIter (some m) g [] g))
   |_=>none
  |_=>none
 |.lU _|.pM=>none
 |.um G=>match gv aa G with
  |.az id 0=>match H.get id with
   |.mapIter (some m) _ seen F=>match seen.getLast?,H.get m with
    |some b,.map es g=>if akb g F then(match qE b es 0 with
     |some i=>match es[i]? with
      |some e=>pure (.tuple [e.key,e.val])
      |none=>none
     |none=>none)else none
    |_,_=>none
   |_=>none
  |_=>none
 |.typeAssert t zero ok x=>match gv aa x with
  |.nilIface=>if ok then pure (.tuple [zero,.bool false])else none
  |.iface u v=>if akb u t then pure (if ok then .tuple [v,.bool true]else v)else if ok then pure (.tuple [zero,.bool false])else none
  |_=>none
 |.extract x i=>match gv aa x with
  |.tuple l=>r (qF l i)
  |_=>none
 |.qC n=>pure (.int 3 (.ofNat n))
 |.kH x=>match gv aa x with
  |.str s=>pure (.int 3 (.ofNat s.length))
  |_=>none
 |.j7 x=>match gv aa x with
  |.slice _ _ n _ _=>pure (.int 3 (.ofNat n))
  |.aS=>pure (.int 3 (.ofNat 0))
  |_=>none
 |.xj x=>match gv aa x with
  |.cY=>pure (.int 3 (.ofNat 0))
  |.map id=>match H.get id with
   |.map es _=>pure (.int 3 (.ofNat es.length))
   |.dI es=>pure (.int 3 (.ofNat es.length))
   |_=>none
  |_=>none
 |.cap x=>match gv aa x with
  |.slice _ _ _ n true=>pure (.int 3 (.ofNat n))
  |.aS=>pure (.int 3 (.ofNat 0))
  |_=>none
 |.append q bytes size A B s x=>
  if B then
   match gv aa x with
   |.int 3 (.ofNat n)=>if fw (n*bytes)&&fw n then kI q bytes size H (gv aa s) n (fO A n)else none
   |_=>none
  else
   match je H size (gv aa x)with
   |some (n,l)=>kI q bytes size H (gv aa s) n l
   |none=>none
 |.copy size d s=>
  match gv aa d,je H size (gv aa s)with
  |.aS,some _=>pure (.int 3 (.ofNat 0))
  |.slice id off len _ _,some (n,l)=>
   let m:=min n len
   if m=0 then pure (.int 3 (.ofNat 0))else
   match iX H id off (l.take (m*size))with
   |some E=>some (.int 3 (.ofNat m),E)
   |none=>none
  |_,_=>none
 |.zd A x=>match gv aa x with
  |.aS=>pure .alR
  |.slice id off n _ _=>if n=0 then pure .alR else match iX H id off (fO A n)with
   |some E=>some (.alR,E)
   |none=>none
  |_=>none
 |.ze x=>match gv aa x with
  |.cY=>pure .alR
  |.map id=>match H.get id with
   |.map _ g=>some (.alR,H.set id (.map [] g))
   |_=>none
  |_=>none
 |.delete key m k=>
  if !jA key (gv aa k)then none else
  match gv aa m with
  |.cY=>pure .alR
  |.map id=>match H.get id with
   |.map es g=>match findKey key (gv aa k) es 0 with
    |some (some (i,_))=>some (.alR,H.set id (.map (pN es i) g))
    |some none=>some (.alR,H.set id (.map es g))
    |none=>none
   |.dI es=>match gJ key (gv aa k) es with
    |some _=>some (.alR,H.set id (.dI (mN key (gv aa k) es)))
    |none=>none
   |_=>none
  |_=>none
 |.qD C l=>match l.map (gv aa)with
  |x::z=>r (zf C x z)
  |[]=>none
 |.call _ _=>none
def ut(H:ai)(f:AV):Option (List (Option aT)×(Option aT->AV×ai)):=
 match f with
 |.az id 0=>match H.get id with
  |.mapIter none _ _ _=>some ([none],λ_=>(.tuple [.bool false],H))
  |.mapIter (some m) a seen d=>match H.get m with
   |.map es b=>
    if !seen.isEmpty&&!es.isEmpty&&es.all (λe=>ak2 d e.born)then none else
    let left:=es.filter λe=>!seen.contains e.born
    let dT:=left.filter λe=>akv e.born a
    let new:=left.filter λe=>!akv e.born a
    some ((if dT.isEmpty then[none]else[])++(dT++new).map some,λc=>match c with
     |some e=>(.tuple [.bool true,e.key,e.val],H.set id (.mapIter (some m) a (seen++[e.born]) b))
     |none=>(.tuple [.bool false],H))
   |_=>none
  |_=>none
 |_=>none
def gz:AV->AV->Bool
 |.bool a,.bool b=>a==b
 |.int k a,.int l b=>akb k l&&iQ a b
 |.str a,.str b=>j8 a b
 |.az a i,.az b j=>ab.beq a b&&akb i j
 |.lS,.lS=>true
 |.slice a i j k e,.slice b l m n f=>ab.beq a b&&akb i l&&akb j m&&akb k n&&(e==f)
 |.aS,.aS=>true
 |.map a,.map b=>ab.beq a b
 |.cY,.cY=>true
 |.yield a,.yield b=>ab.beq a b
 |.nilFunc,.nilFunc=>true
 |.nilIface,.nilIface=>true
 |_,_=>false
def pg:List AV->List AV->Bool
 |[],[]=>true
 |a::l,b::m=>gz a b&&pg l m
 |_,_=>false
def iy:AV->AV->Bool
 |.agg l,.agg m=>pg l m
 |.tuple l,.tuple m=>pg l m
 |.func f a b,.func g c d=>akb f g&&pg a c&&pg b d
 |a,b=>gz a b
def jq:AV->Option ab
 |.az i _=>some i
 |.slice i _ _ _ _=>some i
 |.map i=>some i
 |_=>none
def eV(aa:ap AV)(H:ai):List ab->ai×List (ab×cq)
 |[]=>(H,[])
 |a::l=>match jq (aa.get .alR a)with
  |some i=>let r:=eV aa (H.set i .none) l;(r.1,(i,H.get i)::r.2)
  |none=>eV aa H l
def eB(H:ai):List (ab×cq)->ai
 |[]=>H
 |(i,o)::l=>(eB H l).set i o
def kJ:List AV->ab->ap AV->ap AV
 |[],_,t=>t
 |v::l,a,t=>kJ l a.succ (t.set .alR a v)
def ph:List ab->List AV->ap AV->ap AV
 |c::a,v::b,t=>ph a b (t.set .alR c v)
 |_,_,t=>t
def gZ(aa:ap AV)(H:ai):List iW->Option (List AV)
 |[]=>some []
 |.tmp a::l=>(gZ aa H l).map (aa.get .alR a::·)
 |.cell a agg n::l=>match jp H (aa.get .alR a) n agg,gZ aa H l with
  |some v,some r=>some (v::r)
  |_,_=>none
def iL:List AV->AV
 |[v]=>v
 |l=>.tuple l
structure Fr where
 aa:ap AV
 bI:List ab
 bG:Option ab
def aQ(aa:ap AV)(d:Option ab)(v:AV):ap AV:=
 match d with
 |some a=>aa.set .alR a v
 |none=>aa
def fF(aa:ap AV):Option (ab×Bool)->Bool
 |none=>true
 |some (c,a)=>match aa.get .alR c with
  |.bool b=>b==a
  |_=>false
def lX(aa:ap AV):Option (ab×Bool)->Bool
 |none=>true
 |some (a,_)=>(aa.get .alR a).bB
def fG(aa:ap AV)(H:ai):List jo->Bool
 |[]=>true
 |r::l=>
  (if fF aa r.guard then(match aE r.op aa H with
    |some (w,_)=>iy (aa.get .alR r.dst) w
    |none=>false)else true)&&fG aa H l
def jN(H:ai):List ab->Option ai
 |[]=>some H
 |i::l=>match H.get i with
  |.deferred false=>jN (H.set i (.deferred true)) l
  |_=>none
variable(ac:Nat->aG)
mutual
def exec:(n:Nat)->bt->Fr->ai->(cP->Fr->ai->p)->p
 |0,_,_,_,_=>h
 |n+1,c,fr,H,K=>
  match c with
  |.skip=>K .none fr H
  |.region l=>aC n l fr H (K .none)
  |.seq a b=>exec n a fr H λj fr H=>match j with
   |.none=>exec n b fr H K
   |j=>K j fr H
  |.cond c a b=>match gv fr.aa c with
   |.bool true=>exec n a fr H K
   |.bool false=>exec n b fr H K
   |_=>h
  |.block id b=>exec n b fr H λj fr H=>match j with
   |.exit i=>if akb i id then K .none fr H else K (.exit i) fr H
   |j=>K j fr H
  |.loop b=>exec n b fr H λj fr H=>match j with
   |.none=>exec n (.loop b) fr H K
   |j=>K j fr H
  |.exit id=>K (.exit id) fr H
  |.ret=>K .ret fr H
  |.ez t=>match ac t with
   |.ez g=>match g fr.aa H with
    |some (aa,H)=>K .none {fr with aa:=aa} H
    |none=>h
   |_=>h
  |.rangeFunc f params assign body=>
   let go(fr:Fr)(H:ai)(d:ab):p:=
    io n (gv fr.aa f) [.yield H.next] (H.new (.loop .ready .none 0 fr.aa params assign body d)) λ_ e=>
     match e.get H.next with
     |.loop st cB fn aa k as m d=>
      match st with
      |.busy=>h
      |_=>K cB fr (e.set H.next (.loop .exhausted cB fn aa k as m d))
     |_=>h
   match fr.bG with
   |none=>go {fr with bI:=H.next::fr.bI} (H.new (.deferred false)) H.next
   |some l=>match H.get l with
    |.loop _ _ _ _ _ _ _ d=>go fr H d
    |_=>h
def aC:(n:Nat)->List be->Fr->ai->(Fr->ai->p)->p
 |0,_,_,_,_=>h
 |_+1,[],fr,H,K=>K fr H
 |n+1,o::l,fr,H,K=>
  if fF fr.aa o.guard then
   let d:=eV fr.aa H o.jM
   let after(v:AV)(H:ai):p:=
    let aa:=aQ fr.aa o.dst v
    let H:=eB H d.2
    if fG aa H o.re then aC n l {fr with aa:=aa} H K else h
   match o.op with
   |.call f args=>io n (gv fr.aa f) (args.map (gv fr.aa)) d.1 after
   |.lU b=>match ut d.1 (gv fr.aa b)with
    |some (cs,a)=>ask cs.length λi=>match cs[i]? with
     |some c=>after (a c).1 (a c).2
     |none=>h
    |none=>h
   |op=>match aE op fr.aa d.1 with
    |some (v,H)=>after v H
    |none=>h
  else if lX fr.aa o.guard then aC n l {fr with aa:=aQ fr.aa o.dst .alR} H K else h
def io:(n:Nat)->AV->List AV->ai->(AV->ai->p)->p
 |0,_,_,_,_=>h
 |n+1,f,args,H,K=>
  match f with
  |.func f first a=>
   match ac f with
   |.none|.ez _=>h
   |.ix g=>match g (first++args++a) H with
    |some (v,H)=>K v H
    |none=>h
   |.code e results body=>
    if ak2 (first++args++a).length e then
    exec n body ⟨kJ (first++args++a) .xH .aL,[],none⟩ H λj fr H=>
     match j with
     |.exit _=>h
     |_=>match jN H fr.bI with
      |some H=>match gZ fr.aa H results with
       |some l=>K (iL l) H
       |none=>h
      |none=>h
    else h
  |.yield l=>
   match H.get l with
   |.loop st cB fn aa b as c d=>
    match st with
    |.ready=>
     if args.length=b.length then
      exec n as ⟨ph b args aa,[],some l⟩ H λj fr H=>
       match j,H.get l with
       |.none,.loop .ready cB fn aa b as bd' d=>
        exec n c fr (H.set l (.loop .busy cB fn aa b as bd' d)) λj _ H=>
         match H.get l with
         |.loop _ _ fn aa b as c d=>
          match j with
          |.none=>K (.bool true) (H.set l (.loop .ready .none fn aa b as c d))
          |j=>K (.bool false) (H.set l (.loop .done j fn aa b as c d))
         |_=>h
       |_,_=>h
     else h
    |_=>h
   |_=>h
  |_=>h
end
end
abbrev T:=aJ.t
abbrev C:=aJ.c
abbrev I(k n:Nat):aJ:=.c (.int k (.ofNat n))
abbrev J(k n:Nat):aJ:=.c (.int k (.negSucc n))
abbrev O(d:ab)(o:bW):be:=⟨some d,o,none,[],[]⟩
abbrev N(o:bW):be:=⟨none,o,none,[],[]⟩
abbrev R(d:ab)(o:bW)(h:List ab)(re:List jo):be:=⟨some d,o,none,h,re⟩
abbrev M(o:bW)(h:List ab)(re:List jo):be:=⟨none,o,none,h,re⟩
abbrev G(d:ab)(o:bW)(g:ab)(b:Bool):be:=⟨some d,o,some (g,b),[],[]⟩
abbrev G'(d:Option ab)(o:bW)(g:ab)(b:Bool)(h:List ab)(re:List jo):be:=⟨d,o,some (g,b),h,re⟩
abbrev i(k n:Nat):AV:=.int k (.ofNat n)
abbrev j(k n:Nat):AV:=.int k (.negSucc n)
end Go.am
end
