/- A part. No conditions. -/
import GoSem.Step
set_option linter.all false
open Nat renaming beq->ahr,blt->ahO,ble->aih
open BitVec renaming ofInt->aik
open UInt8 renaming ofNat->ai0
noncomputable section
namespace Go.al
abbrev aa9:=@Option.some.injEq
abbrev abt:=@List.mem_singleton
abbrev abO:=@List.getElem_mem
abbrev ab8:=@List.mem_cons_of_mem
abbrev acj:=@List.mem_cons_self
abbrev ac2:=@List.mem_cons
abbrev ac6:=@List.mem_append
abbrev ae0:=@List.append_assoc
abbrev ae8:=@List.length_append
abbrev ahb:=@List.take_append_getElem
abbrev ahd:=@List.getElem_of_mem
abbrev ahi:=@List.getD_eq_getElem?_getD
abbrev ahj:=@List.mem_append_left
abbrev ahk:=@List.map_cons
abbrev ahm:=@List.mem_map
abbrev aho:=@List.take_of_length_le
abbrev ahp:=@List.drop_eq_getElem_cons
abbrev ahs:=@List.length_map
abbrev ahu:=@List.mem_append_right
abbrev ahv:=@List.not_mem_nil
abbrev ahx:=@List.map_append
abbrev ahy:=@List.perm_middle
abbrev ahz:=@List.eq_nil_of_length_eq_zero
abbrev ahA:=@List.perm_append_comm
abbrev ahB:=@List.getElem?_map
abbrev ahE:=@List.getElem?_append_left
abbrev ahG:=@List.mem_map_of_mem
abbrev ahH:=@List.flatMap_append
abbrev ahI:=@List.mem_flatMap
abbrev ahJ:=@List.length_singleton
abbrev ahK:=@List.length_cons
abbrev ahP:=@List.getElem_map
abbrev ahR:=@List.mem_range
abbrev ahT:=@List.nodup_cons
abbrev ahU:=@List.length_take
abbrev ahW:=@List.flatMap_singleton
abbrev ahX:=@List.getElem?_replicate
abbrev ahY:=@List.getElem?_eq_some_iff
abbrev ahZ:=@List.nodup_append
abbrev ah1:=@List.getElem?_eq_none
abbrev ah4:=@List.cons_append
abbrev ah7:=@List.getElem?_eq_getElem
abbrev ah8:=@List.append_nil
abbrev ah9:=@List.range_succ
abbrev aid:=@List.take_length
abbrev aie:=@List.nil_append
abbrev aif:=@List.length_replicate
abbrev aig:=@List.take_append_drop
abbrev ail:=@List.getElem?_cons_succ
abbrev aim:=@List.flatMap_cons
abbrev ain:=@List.ext_getElem
abbrev aio:=@List.map_replicate
abbrev aip:=@List.map_congr_left
abbrev air:=@List.length_set
abbrev ais:=@List.getElem?_append_right
abbrev aiu:=@List.take_succ_cons
abbrev aiv:=@List.all_eq_true
abbrev aiz:=@List.map_nil
abbrev aiB:=@List.take_zero
abbrev aiC:=@List.nil_sublist
abbrev aiF:=@List.map_map
abbrev aiG:=@List.pairwise_cons
abbrev aiH:=@List.getElem_range
abbrev aiK:=@List.mem_of_mem_take
abbrev aiM:=@List.length_drop
abbrev aiN:=@List.getElem?_range
abbrev aiO:=@List.mapM_cons
abbrev aiP:=@List.nodup_nil
abbrev aiR:=@List.mem_filter
abbrev aiX:=@List.drop_zero
abbrev abF:=@Option.bind_eq_some_iff
abbrev aeX:=@Option.bind_eq_bind
abbrev ae2:=@Option.map_eq_some_iff
abbrev ahe:=@Option.pure_def
abbrev ahQ:=@Option.map_some
abbrev aii:=@Option.getD_some
abbrev aiS:=@Option.bind_some
abbrev abH:=@Bool.false_eq_true
abbrev ahl:=@Bool.and_eq_true
abbrev ahN:=@Bool.not_true
abbrev ah3:=@Bool.not_eq_true'
abbrev aij:=@Bool.or_eq_true
abbrev aiI:=@Bool.eq_iff_iff
abbrev aiU:=@Bool.true_and
abbrev ai1:=@Bool.and_self
abbrev aeE:=@Nat.le_refl
abbrev ahn:=@Nat.eq_of_beq_eq_true
abbrev aht:=@Nat.le_of_ble_eq_true
abbrev ahw:=@Nat.zero_add
abbrev ahC:=@Nat.lt_of_lt_of_le
abbrev ahS:=@Nat.mul_le_mul_right
abbrev ahV:=@Nat.ble_eq_true_of_le
abbrev aib:=@Nat.blt_eq
abbrev aic:=@Nat.lt_or_ge
abbrev ait:=@Nat.beq_refl
abbrev aiw:=@Nat.le_trans
abbrev aiD:=@Nat.add_assoc
abbrev aiE:=@Nat.mul_one
abbrev aiQ:=@Nat.min_eq_left
abbrev aiT:=@Nat.add_mul
abbrev aiV:=@Nat.add_zero
abbrev aiW:=@Nat.sub_zero
abbrev aeY:=@Int.toNat_natCast
abbrev ag0:=@Int.ofNat_eq_natCast
abbrev afm:=@Prod.mk.injEq
abbrev ahD:=@List.cons.injEq
abbrev ahF:=@Classical.byContradiction
abbrev aix:=@Classical.not_not
abbrev ahL:=@Array.getElem?_setIfInBounds
abbrev ah2:=@Array.getD_eq_getD_getElem?
abbrev aia:=@Array.length_toList
abbrev aiq:=@Array.getElem?_eq_none
abbrev aiA:=@Array.getElem?_push
abbrev ahM:=@List.Sublist.refl
abbrev ai3:=@List.Perm.refl
abbrev aiY:=@Iff.rfl
abbrev aiZ:=@Ne.symm
end Go.al
namespace Go.al
theorem aa{p:Prop}(h:p:=by omega):p:=h
theorem bt{p:Prop}(h:p:=by decide):p:=h
theorem aC{p:Prop}(h:p:=by simp):p:=h
theorem an.{u}{c:Prop}{h:Decidable c}(k:¬c){e:Sort u}{t a:e}:ite c t a=a:=if_neg k
theorem aF.{u}{c:Prop}{h:Decidable c}(k:c){e:Sort u}{t a:e}:ite c t a=t:=if_pos k
theorem bg.{u}{e:Sort u}{h:Decidable True}(t a:e):ite True t a=t:=if_true t a
theorem bF.{u}{e:Sort u}{h:Decidable False}(t a:e):ite False t a=a:=if_false t a
inductive ah where
 |xH|xO(p:ah)|xI(p:ah)
 deriving DecidableEq
def ah.succ:ah->ah
 |.xH=>.xO .xH
 |.xO p=>.xI p
 |.xI p=>.xO p.succ
def ah.cV:Nat->ah
 |0=>.xH
 |t+1=>(ah.cV t).succ
inductive az(α:Type)where
 |ch
 |node(l:az α)(v:α)(r:az α)
namespace az
variable{e:Type}
def left:az e->az e
 |.ch=>.ch
 |.node l _ _=>l
def right:az e->az e
 |.ch=>.ch
 |.node _ _ r=>r
def val(d:e):az e->e
 |.ch=>d
 |.node _ v _=>v
def get(d:e):ah->az e->e
 |.xH,t=>t.val d
 |.xO p,t=>get d p t.left
 |.xI p,t=>get d p t.right
def set(d:e):ah->e->az e->az e
 |.xH,x,t=>.node t.left x t.right
 |.xO p,x,t=>.node (set d p x t.left) (t.val d) t.right
 |.xI p,x,t=>.node t.left (t.val d) (set d p x t.right)
def br(d:e):az e->Nat->e
 |.ch,_=>d
 |.node _ v _,0=>v
 |.node l _ r,m+1=>if m % 2=0 then br d l (m/2)else br d r (m/2)
def lD(d:e):(fuel:Nat)->Nat->e->az e->az e
 |_,0,x,t=>.node t.left x t.right
 |0,_+1,_,t=>t
 |f+1,m+1,x,t=>
  if m % 2=0 then .node (lD d f (m/2) x t.left) (t.val d) t.right
  else .node t.left (t.val d) (lD d f (m/2) x t.right)
end az
inductive AV where
 |tuple(l:List AV)
 |agg(l:List AV)
 |bool(b:Bool)
 |int(k:Nat)(n:Int)
 |str(s:List Nat)
 |aD(id:ah)(off:Nat)
 |j5
 |slice(id:ah)(off len cap:Nat)(exact:Bool)
 |bj
 |map(id:ah)
 |cP
 |func(f:Nat)(first captured:List AV)
 |yield(id:ah)
 |nilFunc
 |iface(t:Nat)(v:AV)
 |nilIface
 |bQ
 deriving Inhabited
abbrev AV.ai8:AV:=.tuple []
def AV.cells:AV->List AV
 |.agg l=>l
 |v=>[v]
def AV.cY:AV->Bool
 |.agg _|.tuple _|.bQ=>false
 |_=>true
def AV.bk:AV->Bool
 |.bQ=>false
 |_=>true
def kc:IntKind->Nat
 |.i8=>0|.i16=>1|.i32=>2|.i64=>3|.u8=>4|.u16=>5|.u32=>6|.u64=>7
def ck:Nat->IntKind
 |0=>.i8|1=>.i16|2=>.i32|3=>.i64|4=>.u8|5=>.u16|6=>.u32|_=>.u64
inductive aJ where
 |t(p:ah)
 |c(v:AV)
inductive dB where
 |bool|int|str|aD|slice|map|func
 |iface(const empty:Bool)
 |dX(l:List (Nat×Nat×Bool×dB))
inductive bJ where
 |bf(x:aJ)
 |pick(c a b:aJ)
 |box(elem:Nat)(x:aJ)
 |alloc(elem:Nat)(zs:List AV)
 |build(zs:List AV)(dX:List (Nat×Nat×aJ))
 |buildSlice(elem len:Nat)(zs:List AV)(dX:List (Nat×Nat×aJ))
 |aW(a:aJ)
 |ee(n:Nat)(a:aJ)
 |store(n:Nat)(a x:aJ)
 |nilCheck(x:aJ)
 |arith(op:BinOp)(k:Nat)(x y:aJ)
 |shift(op:BinOp)(x y:aJ)
 |kw(op:BinOp)(x y:aJ)
 |eq(neg:Bool)(d:dB)(x y:aJ)
 |unary(op:UnOp)(x:aJ)
 |kx(k:Nat)(x:aJ)
 |oX(x:aJ)
 |mI(t:Nat)(x:aJ)
 |k6(f:Nat)(first captured:List aJ)
 |ky
 |mJ(elem bytes size:Nat)(zs:List AV)(len cap:aJ)
 |gV(elem size:Nat)(x:aJ)(lo hi mx:Option aJ)
 |iX(off:Nat)(x:aJ)
 |part(agg:Bool)(off size:Nat)(x:aJ)
 |rh(n size:Nat)(x i:aJ)
 |dH(size:Nat)(x i:aJ)
 |nH(x i:aJ)
 |lookup(key:dB)(zero:AV)(ok:Bool)(m k:aJ)
 |jK(key:dB)(m k v:aJ)
 |pV(x:aJ)
 |sA(it:aJ)
 |lX(x:aJ)
 |j6(it:aJ)
 |ri(it:aJ)
 |lY
 |typeAssert(t:Nat)(zero:AV)(ok:Bool)(x:aJ)
 |extract(x:aJ)(i:Nat)
 |mK(x:aJ)
 |iY(x:aJ)
 |uc(x:aJ)
 |cap(x:aJ)
 |append(elem bytes size:Nat)(zs:List AV)(ofMake:Bool)(s x:aJ)
 |copy(size:Nat)(d s:aJ)
 |yF(zs:List AV)(x:aJ)
 |delete(key:dB)(m k:aJ)
 |oY(isMax:Bool)(l:List aJ)
 |call(f:aJ)(args:List aJ)
structure gN where
 dst:ah
 op:bJ
 guard:Option (ah×Bool)
structure bD where
 dst:Option ah
 op:bJ
 guard:Option (ah×Bool)
 iy:List ah
 re:List gN
inductive bw where
 |skip
 |region(l:List bD)
 |seq(a b:bw)
 |cond(c:aJ)(a b:bw)
 |block(id:Nat)(b:bw)
 |loop(b:bw)
 |rangeFunc(f:aJ)(params:List ah)(assign body:bw)
 |exit(id:Nat)
 |ret
 |eH(t:Nat)
inductive cC where
 |none
 |exit(id:Nat)
 |ret
inductive pW where
 |ready|busy|done|exhausted
structure aV where
 key:AV
 val:AV
 born:Nat
inductive bR where
 |none
 |cells(c:az AV)(n:Nat)(elem:Nat)(rw:Bool)(aK:List ah)(fz:Nat)
 |map(es:List aV)(clock:Nat)
 |cK(es:List aV)
 |kz(s:List Nat)(rest:List Nat)(pos:Nat)
 |loop(st:pW)(bU:cC)(fn:Nat)(af:az AV)(params:List ah)(assign body:bw)(defers:ah)
 |deferred(taken:Bool)
 |mapIter(m:Option ah)(since:Nat)(seen:List Nat)(last:Nat)
 deriving Inhabited
structure ai where
 t:az bR
 next:ah
def ai.get(H:ai)(i:ah):bR:=H.t.get .none i
def ai.set(H:ai)(i:ah)(o:bR):ai:=⟨H.t.set .none i o,H.next⟩
def ai.new(H:ai)(o:bR):ai:=⟨H.t.set .none H.next o,H.next.succ⟩
def ai.eI(H:ai):List ah->ai
 |[]=>H
 |i::l=>(H.set i .none).eI l
inductive gO where
 |tmp(p:ah)
 |cell(p:ah)(agg:Bool)(n:Nat)
inductive aX where
 |none
 |code(nt:Nat)(results:List gO)(body:bw)
 |ji(f:List AV->ai->Option (AV×ai))
 |eH(f:az AV->ai->Option (az AV×ai))
end Go.al
namespace Go.al
section
variable{e:Type}(b:e)(ask:Nat->(Nat->e)->e)
def gv(af:az AV)(x:aJ):AV:=
 match x with
 |.t p=>af.get .ai8 p
 |.c v=>v
def fZ(c:az AV)(n off:Nat):Nat->Option (List AV)
 |0=>some []
 |m+1=>if off<n then(match fZ c n (off+1) m with|some l=>some (c.br .ai8 off::l)|none=>none)else none
def ez(c:az AV)(off:Nat):List AV->az AV
 |[]=>c
 |v::l=>ez (c.lD .ai8 off off v) (off+1) l
def cr(l:List AV):az AV:=ez .ch 0 l
def dE(H:ai)(id:ah)(off m:Nat):Option (List AV):=
 match H.get id with
 |.cells c n _ _ _ _=>fZ c n off m
 |_=>none
def cU:List AV->Bool
 |[]=>true
 |v::l=>v.cY&&cU l
def gF(H:ai)(id:ah)(off:Nat)(l:List AV):Option ai:=
 match H.get id with
 |.cells c n a true aK fz=>
  if decide (fz<=off)&&decide (off+l.length<=n)&&cU l then some ((H.eI aK).set id (.cells (ez c off l) n a true [] fz))else none
 |_=>none
def iG:List Nat->List Nat->Bool
 |[],[]=>true
 |a::l,c::m=>ahr a c&&iG l m
 |_,_=>false
def oZ:List Nat->List Nat->Bool
 |_,[]=>false
 |[],_::_=>true
 |a::l,c::m=>ahO a c||(ahr a c&&oZ l m)
def ah.beq:ah->ah->Bool
 |.xH,.xH=>true
 |.xO p,.xO q=>ah.beq p q
 |.xI p,.xI q=>ah.beq p q
 |_,_=>false
def gz:Int->Int->Bool
 |.ofNat a,.ofNat c=>ahr a c
 |.negSucc a,.negSucc c=>ahr a c
 |_,_=>false
def j7:Int->Int->Bool
 |.ofNat a,.ofNat c=>ahO a c
 |.negSucc a,.negSucc c=>ahO c a
 |.negSucc _,.ofNat _=>true
 |.ofNat _,.negSucc _=>false
def pX(agg:Bool)(l:List AV)(off size:Nat):Option AV:=
 if agg then some (.agg ((l.drop off).take size))else(l.drop off).head?
def db:(fuel:Nat)->dB->AV->AV->Option Bool
 |_,.bool,.bool a,.bool m=>some (a==m)
 |_,.int,.int k a,.int l m=>if k=l then some (gz a m)else none
 |_,.str,.str a,.str m=>some (iG a m)
 |_,.aD,.j5,.j5=>some true
 |_,.aD,.j5,.aD _ _=>some false
 |_,.aD,.aD _ _,.j5=>some false
 |_,.aD,.aD a i,.aD m j=>if ah.beq a m then some (ahr i j)else none
 |_,.slice,.bj,.bj=>some true
 |_,.slice,.bj,.slice .. =>some false
 |_,.slice,.slice ..,.bj=>some false
 |_,.map,.cP,.cP=>some true
 |_,.map,.cP,.map _=>some false
 |_,.map,.map _,.cP=>some false
 |_,.func,.nilFunc,.nilFunc=>some true
 |_,.func,.nilFunc,.func .. =>some false
 |_,.func,.func ..,.nilFunc=>some false
 |_,.func,.nilFunc,.yield _=>some false
 |_,.func,.yield _,.nilFunc=>some false
 |_,.iface const empty,.nilIface,.nilIface=>if const||empty then some true else none
 |_,.iface _ _,.nilIface,.iface _ _=>some false
 |_,.iface _ _,.iface _ _,.nilIface=>some false
 |_,.iface _ _,.iface t _,.iface u _=>if ahr t u then none else some false
 |f+1,.dX h,.agg c,.agg g=>go f c g h
 |_,_,_,_=>none
where
 go:(fuel:Nat)->List AV->List AV->List (Nat×Nat×Bool×dB)->Option Bool
  |_,_,_,[]=>some true
  |0,_,_,_::_=>none
  |f+1,c,g,(off,size,agg,d)::h=>
   match pX agg c off size,pX agg g off size with
   |some x,some y=>
    match db f d x y with
    |some true=>go f c g h
    |some false=>some false
    |none=>none
   |_,_=>none
def k7(k:Nat)(n:Int):Int:=(ck k).wrap n
def gf(k:Nat)(n:Int):Int:=
 match k,n with
 |3,.ofNat m=>if ahO m 9223372036854775808 then .ofNat m else k7 3 (.ofNat m)
 |3,.negSucc m=>if ahO m 9223372036854775808 then .negSucc m else k7 3 (.negSucc m)
 |4,.ofNat m=>if ahO m 256 then .ofNat m else k7 4 (.ofNat m)
 |k,n=>k7 k n
def fO(op:BinOp)(k:Nat)(a c:Int):Option AV:=
 match op with
 |.add=>some (.int k (gf k (a+c)))
 |.sub=>some (.int k (gf k (a - c)))
 |.mul=>some (.int k (gf k (a*c)))
 |.quo=>if c=0 then none else some (.int k (gf k (a.tdiv c)))
 |.rem=>if c=0 then none else some (.int k (a.tmod c))
 |.and=>some (.int k (k7 k (aik (ck k).bits a&&&aik (ck k).bits c).toNat))
 |.or=>some (.int k (k7 k (aik (ck k).bits a|||aik (ck k).bits c).toNat))
 |.xor=>some (.int k (k7 k (aik (ck k).bits a^^^aik (ck k).bits c).toNat))
 |.andNot=>some (.int k (k7 k (aik (ck k).bits a&&& ~~~aik (ck k).bits c).toNat))
 |.eql=>some (.bool (gz a c))
 |.neq=>some (.bool (!gz a c))
 |.lss=>some (.bool (j7 a c))
 |.leq=>some (.bool (!j7 c a))
 |.gtr=>some (.bool (j7 c a))
 |.geq=>some (.bool (!j7 a c))
 |_=>none
def yG(op:BinOp)(k:Nat)(x y:AV):Option AV:=
 match x,y with
 |.int j a,.int l c=>if ahr j k&&ahr l k then fO op k a c else none
 |_,_=>none
def AJ(op:BinOp)(x y:AV):Option AV:=
 match x,y with
 |.int k a,.int _ (.ofNat c)=>
  let n:=min c (ck k).bits
  match op with
  |.shl=>some (.int k (gf k (a*2^n)))
  |.shr=>some (.int k (a.fdiv (2^n)))
  |_=>none
 |_,_=>none
def vY(op:BinOp)(x y:AV):Option AV:=
 match x,y with
 |.str a,.str c=>
  match op with
  |.add=>if a.length+c.length<4294967296 then some (.str (a++c))else none
  |.eql=>some (.bool (iG a c))
  |.neq=>some (.bool (!iG a c))
  |.lss=>some (.bool (oZ a c))
  |.leq=>some (.bool (!oZ c a))
  |.gtr=>some (.bool (oZ c a))
  |.geq=>some (.bool (!oZ a c))
  |_=>none
 |_,_=>none
def AL(op:UnOp)(x:AV):Option AV:=
 match op,x with
 |.neg,.int k n=>some (.int k (gf k (0 - n)))
 |.xor,.int k n=>fO .xor k (if(ck k).signed then -1 else(ck k).max) n
 |.not,.bool a=>some (.bool !a)
 |_,_=>none
def rj(l:List AV):(off:Nat)->List AV->Option (List AV)
 |0,[]=>some l
 |0,v::a=>match l with
  |[]=>none
  |_::l=>match rj l 0 a with|some c=>some (v::c)|none=>none
 |off+1,a=>match l with
  |[]=>none
  |x::l=>match rj l off a with|some c=>some (x::c)|none=>none
def lE(af:az AV)(l:List AV):List (Nat×Nat×aJ)->Option (List AV)
 |[]=>some l
 |(off,size,x)::a=>
  let c:=(gv af x).cells
  if(gv af x).bk&&decide (c.length=size)then(match rj l off c with|some d=>lE af d a|none=>none)else none
def dZ(a:List AV):Nat->List AV
 |0=>[]
 |n+1=>a++dZ a n
def lF(x:AV)(y:Nat):Option Nat:=
 match x with
 |.int _ (.ofNat i)=>if aih i y then some i else none
 |_=>none
def jA(af:az AV)(x:Option aJ)(d y:Nat):Option Nat:=
 match x with
 |some x=>lF (gv af x) y
 |none=>some d
def findKey(d:dB)(k:AV):List aV->Nat->Option (Option (Nat×AV))
 |[],_=>some none
 |a::es,i=>
  match db 64 d k a.key with
  |some true=>some (some (i,a.val))
  |some false=>findKey d k es (i+1)
  |none=>none
def rl:dB->Bool
 |.int|.str|.bool=>true
 |_=>false
def eN(d:dB)(k:AV)(es:List aV):Option (Option AV):=if rl d then go es else none
where
 go:List aV->Option (Option AV)
  |[]=>some none
  |a::es=>match db 64 d k a.key,go es with
   |some true,some none=>some (some a.val)
   |some false,some r=>some r
   |_,_=>none
def kN(d:dB)(k:AV)(a:aV):Bool:=
 match db 64 d k a.key with
 |some c=>c
 |none=>false
def j8(d:dB)(k v:AV):List aV->List aV
 |[]=>[]
 |a::es=>(if kN d k a then{a with key:=k,val:=v}else a)::j8 d k v es
def kO(d:dB)(k:AV):List aV->List aV
 |[]=>[]
 |a::es=>if kN d k a then kO d k es else a::kO d k es
def kA(v:AV)(k:AV):List aV->Nat->List aV
 |[],_=>[]
 |a::es,0=>{a with key:=k,val:=v}::es
 |a::es,i+1=>a::kA v k es i
def mL:List aV->Nat->List aV
 |[],_=>[]
 |_::es,0=>es
 |a::es,i+1=>a::mL es i
def pY(a:Nat):List aV->Nat->Option Nat
 |[],_=>none
 |c::es,i=>if ahr c.born a then some i else pY a es (i+1)
def gh(H:ai)(size:Nat)(x:AV):Option (Nat×List AV):=
 match x with
 |.bj=>some (0,[])
 |.slice id off len _ _=>match dE H id off (len*size)with|some l=>some (len,l)|none=>none
 |.str s=>if ahr size 1 then some (s.length,s.map λn=>.int 4 (.ofNat n))else none
 |_=>none
def dU(n:Nat):Bool:=aih n 70368744177664
def jk(d bytes size:Nat)(H:ai)(s:AV)(n:Nat)(l:List AV):Option (AV×ai):=
 if !cU l then none else
 match s with
 |.bj=>
  if ahr n 0 then some (.bj,H)
  else if dU (n*bytes)&&dU n then some (.slice H.next 0 n n false,H.new (.cells (cr l) (n*size) d true [] 0))else none
 |.slice id off len cap exact=>
  let a:=len+n
  if aih a cap then
   if ahr n 0 then some (.slice id off a cap exact,H)else
   match gF H id (off+len*size) l with
   |some H'=>some (.slice id off a cap exact,H')
   |none=>none
  else if !(dU (a*bytes)&&dU a)then none else
   match H.get id with
   |.cells c m f rw aK fz=>
    match fZ c m off (len*size)with
    |none=>none
    |some cI=>
     if exact then some (.slice H.next 0 a a false,H.new (.cells (cr (cI++l)) (a*size) d true [] 0))
     else if rw&&ahr len cap&&ahr (off+cap*size) m&&ahr f d&&aih fz m then
      some (.slice H.next 0 a a false,(H.set id (.cells c m f false aK fz)).new (.cells (cr (cI++l)) (a*size) d true (id::aK) (fz - off)))
     else none
   |_=>none
 |_=>none
def gW(H:ai)(a:AV)(n:Nat)(agg:Bool):Option AV:=
 match a with
 |.aD id off=>
  match dE H id off n with
  |some l=>if agg then some (.agg l)else l.head?
  |none=>none
 |_=>none
def vZ(c:Bool):AV->List AV->Option AV
 |x,[]=>some x
 |.int k a,.int l f::d=>if ahr k l then vZ c (.int k (if c then(if j7 a f then f else a)else(if j7 f a then f else a))) d else none
 |_,_=>none
def CV:AV->Option Nat
 |.int 4 (.ofNat n)=>if ahO n 256 then some n else none
 |_=>none
def ud:List AV->Option (List Nat)
 |[]=>some []
 |v::l=>match CV v,ud l with
  |some n,some r=>some (n::r)
  |_,_=>none
def yH:List Nat->Nat->Option Nat
 |[],_=>none
 |a::_,0=>some a
 |_::l,i+1=>yH l i
def nI:List AV->Nat->Option AV
 |[],_=>none
 |a::_,0=>some a
 |_::l,i+1=>nI l i
def pZ:(fuel:Nat)->dB->AV->Bool
 |_,.bool,.bool _=>true
 |_,.int,.int _ _=>true
 |_,.str,.str _=>true
 |_,.aD,.aD _ _=>true
 |_,.aD,.j5=>true
 |f+1,.dX c,.agg a=>go f a c
 |_,_,_=>false
where
 go:(fuel:Nat)->List AV->List (Nat×Nat×Bool×dB)->Bool
  |_,_,[]=>true
  |0,_,_::_=>false
  |f+1,a,(off,size,agg,d)::c=>match pX agg a off size with
   |some x=>pZ f d x&&go f a c
   |none=>false
def iH(d:dB)(k:AV):Bool:=
 match d with
 |.dX _=>pZ 64 d k
 |.iface _ _=>false
 |_=>true
def CW:AV->AV->Bool
 |.bool a,.bool c=>a==c
 |.int j a,.int k c=>ahr j k&&gz a c
 |.str a,.str c=>iG a c
 |_,_=>false
def wc:List AV->List AV->Bool
 |[],[]=>true
 |a::l,c::m=>CW a c&&wc l m
 |_,_=>false
def wd(d:dB)(k:AV):List aV->Nat->Bool
 |[],_=>false
 |a::_,0=>match d,k,a.key with
  |.dX _,.agg l,.agg m=>wc l m
  |.dX _,_,_=>false
  |_,_,_=>true
 |_::es,i+1=>wd d k es i
def qf(H:ai)(id:ah)(a:Nat):Bool:=
 match H.get id with
 |.cells _ _ c _ _ _=>ahr c a
 |_=>false
def u8(s:List Nat)(a:Nat):Nat×Nat:=Utf8.decode ⟨(s.map ai0).toArray⟩ a
def aH(o:bJ)(af:az AV)(H:ai):Option (AV×ai):=
 let pure(v:AV):Option (AV×ai):=some (v,H)
 let p(v:Option AV):Option (AV×ai):=v.map λv=>(v,H)
 match o with
 |.bf x=>pure (gv af x)
 |.pick c a F=>match gv af c with
  |.bool t=>pure (if t then gv af a else gv af F)
  |_=>none
 |.box q x=>
  let l:=(gv af x).cells
  if cU l then some (.aD H.next 0,H.new (.cells (cr l) l.length q true [] 0))else none
 |.alloc q z=>some (.aD H.next 0,H.new (.cells (cr z) z.length q true [] 0))
 |.build z dX=>p ((lE af z dX).map .agg)
 |.buildSlice q len z dX=>
  match lE af (dZ z len) dX with
  |some l=>if cU l then some (.slice H.next 0 len len true,H.new (.cells (cr l) l.length q true [] 0))else none
  |none=>none
 |.aW a=>p (gW H (gv af a) 1 false)
 |.ee n a=>p (gW H (gv af a) n true)
 |.store n a x=>
  match gv af a with
  |.aD id off=>
   let l:=(gv af x).cells
   if l.length=n then(match gF H id off l with|some H'=>some (.ai8,H')|none=>none)else none
  |_=>none
 |.nilCheck x=>match gv af x with
  |.aD id off=>pure (.aD id off)
  |.func f a F=>pure (.func f a F)
  |.yield l=>pure (.yield l)
  |.iface t v=>pure (.iface t v)
  |.map m=>pure (.map m)
  |.slice a F c d G=>pure (.slice a F c d G)
  |_=>none
 |.arith op k x y=>p (yG op k (gv af x) (gv af y))
 |.shift op x y=>p (AJ op (gv af x) (gv af y))
 |.kw op x y=>p (vY op (gv af x) (gv af y))
 |.eq neg d x y=>p ((db 64 d (gv af x) (gv af y)).map λF=>.bool (F !=neg))
 |.unary op x=>p (AL op (gv af x))
 |.kx k x=>match gv af x with
  |.int _ n=>pure (.int k (gf k n))
  |_=>none
 |.oX x=>match gv af x with
  |.bj=>pure (.str [])
  |.slice id off len _ _=>match dE H id off len with
   |some l=>(ud l).map λs=>(.str s,H)
   |none=>none
  |_=>none
 |.mI t x=>pure (.iface t (gv af x))
 |.k6 f a F=>pure (.func f (a.map (gv af)) (F.map (gv af)))
 |.ky=>some (.map H.next,H.new (.map [] 0))
 |.mJ q bytes size z len cap=>
  match gv af len,gv af cap with
  |.int 3 (.ofNat l),.int 3 (.ofNat c)=>
   if aih l c&&dU (c*bytes)&&dU c then some (.slice H.next 0 l c true,H.new (.cells (cr (dZ z c)) (c*size) q true [] 0))else none
  |_,_=>none
 |.gV q size x lo hi D=>
  match gv af x with
  |.bj=>do
   let m<-jA af D 0 0
   let h<-jA af hi 0 m
   let _<-jA af lo 0 h
   some (.bj,H)
  |.slice id off len cap exact=>do
   let m<-jA af D cap cap
   let h<-jA af hi len m
   let l<-jA af lo 0 h
   if exact||D.isSome||lo.isNone||qf H id q then
    some (.slice id (if exact&&m=l then off else off+l*size) (h - l) (m - l) (exact||D.isSome),H)
   else none
  |_=>none
 |.iX off x=>match gv af x with
  |.aD id o=>pure (.aD id (o+off))
  |_=>none
 |.part agg off size x=>match gv af x with
  |.agg l=>p (pX agg l off size)
  |_=>none
 |.rh n size x i=>match gv af x,gv af i with
  |.aD id o,.int _ (.ofNat j)=>if ahO j n then pure (.aD id (o+j*size))else none
  |_,_=>none
 |.dH size x i=>match gv af x,gv af i with
  |.slice id o len _ _,.int _ (.ofNat j)=>if ahO j len then pure (.aD id (o+j*size))else none
  |_,_=>none
 |.nH x i=>match gv af x,gv af i with
  |.str s,.int _ (.ofNat j)=>p ((yH s j).map λn=>.int 4 (.ofNat n))
  |_,_=>none
 |.lookup key zero ok m k=>
  if !iH key (gv af k)then none else
  let aq(v:AV)(F:Bool):Option (AV×ai):=pure (if ok then .tuple [v,.bool F]else v)
  match gv af m with
  |.cP=>aq zero false
  |.map id=>match H.get id with
   |.map es _=>match findKey key (gv af k) es 0 with
    |some (some (_,v))=>aq v true
    |some none=>aq zero false
    |none=>none
   |.cK es=>match eN key (gv af k) es with
    |some (some v)=>aq v true
    |some none=>aq zero false
    |none=>none
   |_=>none
  |_=>none
 |.jK key m k v=>
  if !iH key (gv af k)then none else
  match gv af m with
  |.map id=>match H.get id with
   |.map es g=>match findKey key (gv af k) es 0 with
    |some (some (i,_))=>if wd key (gv af k) es i then some (.ai8,H.set id (.map (kA (gv af v) (gv af k) es i) g))else none
    |some none=>some (.ai8,H.set id (.map (es++[⟨gv af k,gv af v,g⟩]) (g+1)))
    |none=>none
   |.cK es=>match eN key (gv af k) es with
    |some (some _)=>some (.ai8,H.set id (.cK (j8 key (gv af k) (gv af v) es)))
    |some none=>some (.ai8,H.set id (.cK (es++[⟨gv af k,gv af v,0⟩])))
    |none=>none
   |_=>none
  |_=>none
 |.pV x=>match gv af x with
  |.str s=>some (.aD H.next 0,H.new (.kz s s 0))
  |_=>none
 |.sA E=>match gv af E with
  |.aD id 0=>match H.get id with
   |.kz s w r=>match w with
    |[]=>pure (.tuple [.bool false])
    |c::w=>if ahO c 128 then some (.tuple [.bool true,.int 3 (.ofNat r),.int 2 (.ofNat c)],H.set id (.kz s w (r+1)))else some (.tuple [.bool true,.int 3 (.ofNat r),.int 2 (.ofNat (u8 s r).1)],H.set id (.kz s (s.drop (r+(u8 s r).2)) (r+(u8 s r).2)))
   |_=>none
  |_=>none
 |.lX x=>match gv af x with
  |.cP=>some (.aD H.next 0,H.new (.mapIter none 0 [] 0))
  |.map m=>match H.get m with
   |.map _ g=>some (.aD H.next 0,H.new (.mapIter (some m) g [] g))
   |_=>none
  |_=>none
 |.j6 _|.lY=>none
 |.ri E=>match gv af E with
  |.aD id 0=>match H.get id with
   |.mapIter (some m) _ seen C=>match seen.getLast?,H.get m with
    |some F,.map es g=>if ahr g C then(match pY F es 0 with
     |some i=>match es[i]? with
      |some G=>pure (.tuple [G.key,G.val])
      |none=>none
     |none=>none)else none
    |_,_=>none
   |_=>none
  |_=>none
 |.typeAssert t zero ok x=>match gv af x with
  |.nilIface=>if ok then pure (.tuple [zero,.bool false])else none
  |.iface u v=>if ahr u t then pure (if ok then .tuple [v,.bool true]else v)else if ok then pure (.tuple [zero,.bool false])else none
  |_=>none
 |.extract x i=>match gv af x with
  |.tuple l=>p (nI l i)
  |_=>none
 |.mK x=>match gv af x with
  |.str s=>pure (.int 3 (.ofNat s.length))
  |_=>none
 |.iY x=>match gv af x with
  |.slice _ _ n _ _=>pure (.int 3 (.ofNat n))
  |.bj=>pure (.int 3 (.ofNat 0))
  |_=>none
 |.uc x=>match gv af x with
  |.cP=>pure (.int 3 (.ofNat 0))
  |.map id=>match H.get id with
   |.map es _=>pure (.int 3 (.ofNat es.length))
   |.cK es=>pure (.int 3 (.ofNat es.length))
   |_=>none
  |_=>none
 |.cap x=>match gv af x with
  |.slice _ _ _ n true=>pure (.int 3 (.ofNat n))
  |.bj=>pure (.int 3 (.ofNat 0))
  |_=>none
 |.append q bytes size z A s x=>
  if A then
   match gv af x with
   |.int 3 (.ofNat n)=>if dU (n*bytes)&&dU n then jk q bytes size H (gv af s) n (dZ z n)else none
   |_=>none
  else
   match gh H size (gv af x)with
   |some (n,l)=>jk q bytes size H (gv af s) n l
   |none=>none
 |.copy size d s=>
  match gv af d,gh H size (gv af s)with
  |.bj,some _=>pure (.int 3 (.ofNat 0))
  |.slice id off len _ _,some (n,l)=>
   let m:=min n len
   if m=0 then pure (.int 3 (.ofNat 0))else
   match gF H id off (l.take (m*size))with
   |some H'=>some (.int 3 (.ofNat m),H')
   |none=>none
  |_,_=>none
 |.yF z x=>match gv af x with
  |.bj=>pure .ai8
  |.slice id off n _ _=>if n=0 then pure .ai8 else match gF H id off (dZ z n)with
   |some H'=>some (.ai8,H')
   |none=>none
  |_=>none
 |.delete key m k=>
  if !iH key (gv af k)then none else
  match gv af m with
  |.cP=>pure .ai8
  |.map id=>match H.get id with
   |.map es g=>match findKey key (gv af k) es 0 with
    |some (some (i,_))=>some (.ai8,H.set id (.map (mL es i) g))
    |some none=>some (.ai8,H.set id (.map es g))
    |none=>none
   |.cK es=>match eN key (gv af k) es with
    |some _=>some (.ai8,H.set id (.cK (kO key (gv af k) es)))
    |none=>none
   |_=>none
  |_=>none
 |.oY B l=>match l.map (gv af)with
  |x::w=>p (vZ B x w)
  |[]=>none
 |.call _ _=>none
def rm(H:ai)(g:AV):Option (List (Option aV)×(Option aV->AV×ai)):=
 match g with
 |.aD id 0=>match H.get id with
  |.mapIter none _ _ _=>some ([none],λ_=>(.tuple [.bool false],H))
  |.mapIter (some m) a seen f=>match H.get m with
   |.map es d=>
    if !seen.isEmpty&&!es.isEmpty&&es.all (λh=>aih f h.born)then none else
    let left:=es.filter λh=>!seen.contains h.born
    let cI:=left.filter λh=>ahO h.born a
    let new:=left.filter λh=>!ahO h.born a
    some ((if cI.isEmpty then[none]else[])++(cI++new).map some,λc=>match c with
     |some h=>(.tuple [.bool true,h.key,h.val],H.set id (.mapIter (some m) a (seen++[h.born]) d))
     |none=>(.tuple [.bool false],H))
   |_=>none
  |_=>none
 |_=>none
def cD:AV->AV->Bool
 |.bool a,.bool c=>a==c
 |.int k a,.int l c=>ahr k l&&gz a c
 |.str a,.str c=>iG a c
 |.aD a i,.aD c j=>ah.beq a c&&ahr i j
 |.j5,.j5=>true
 |.slice a i j k d,.slice c l m n f=>ah.beq a c&&ahr i l&&ahr j m&&ahr k n&&(d==f)
 |.bj,.bj=>true
 |.map a,.map c=>ah.beq a c
 |.cP,.cP=>true
 |.yield a,.yield c=>ah.beq a c
 |.nilFunc,.nilFunc=>true
 |.nilIface,.nilIface=>true
 |_,_=>false
def j9:List AV->List AV->Bool
 |[],[]=>true
 |a::l,c::m=>cD a c&&j9 l m
 |_,_=>false
def eV:AV->AV->Bool
 |.agg l,.agg m=>j9 l m
 |.tuple l,.tuple m=>j9 l m
 |.func f a h,.func g c d=>ahr f g&&j9 a c&&j9 h d
 |a,h=>cD a h
def gX:AV->Option ah
 |.aD i _=>some i
 |.slice i _ _ _ _=>some i
 |.map i=>some i
 |_=>none
def dF(af:az AV)(H:ai):List ah->ai×List (ah×bR)
 |[]=>(H,[])
 |p::l=>match gX (af.get .ai8 p)with
  |some i=>let r:=dF af (H.set i .none) l;(r.1,(i,H.get i)::r.2)
  |none=>dF af H l
def dj(H:ai):List (ah×bR)->ai
 |[]=>H
 |(i,o)::l=>(dj H l).set i o
def jL:List AV->ah->az AV->az AV
 |[],_,t=>t
 |v::l,p,t=>jL l p.succ (t.set .ai8 p v)
def lZ:List ah->List AV->az AV->az AV
 |p::a,v::c,t=>lZ a c (t.set .ai8 p v)
 |_,_,t=>t
def fH(af:az AV)(H:ai):List gO->Option (List AV)
 |[]=>some []
 |.tmp p::l=>(fH af H l).map (af.get .ai8 p::·)
 |.cell p agg n::l=>match gW H (af.get .ai8 p) n agg,fH af H l with
  |some v,some r=>some (v::r)
  |_,_=>none
def gC:List AV->AV
 |[v]=>v
 |l=>.tuple l
structure Fr where
 af:az AV
 bA:List ah
 bx:Option ah
def aQ(af:az AV)(d:Option ah)(v:AV):az AV:=
 match d with
 |some p=>af.set .ai8 p v
 |none=>af
def d8(af:az AV):Option (ah×Bool)->Bool
 |none=>true
 |some (p,a)=>match af.get .ai8 p with
  |.bool c=>c==a
  |_=>false
def ka(af:az AV):Option (ah×Bool)->Bool
 |none=>true
 |some (p,_)=>(af.get .ai8 p).bk
def dQ(af:az AV)(H:ai):List gN->Bool
 |[]=>true
 |r::l=>
  (if d8 af r.guard then(match aH r.op af H with
    |some (w,_)=>eV (af.get .ai8 r.dst) w
    |none=>false)else true)&&dQ af H l
def iI(H:ai):List ah->Option ai
 |[]=>some H
 |i::l=>match H.get i with
  |.deferred false=>iI (H.set i (.deferred true)) l
  |_=>none
variable(ac:Nat->aX)
mutual
def exec:(n:Nat)->bw->Fr->ai->(cC->Fr->ai->e)->e
 |0,_,_,_,_=>b
 |n+1,c,fr,H,K=>
  match c with
  |.skip=>K .none fr H
  |.region l=>aA n l fr H (K .none)
  |.seq a k=>exec n a fr H λj fr H=>match j with
   |.none=>exec n k fr H K
   |j=>K j fr H
  |.cond c a k=>match gv fr.af c with
   |.bool true=>exec n a fr H K
   |.bool false=>exec n k fr H K
   |_=>b
  |.block id k=>exec n k fr H λj fr H=>match j with
   |.exit i=>if ahr i id then K .none fr H else K (.exit i) fr H
   |j=>K j fr H
  |.loop k=>exec n k fr H λj fr H=>match j with
   |.none=>exec n (.loop k) fr H K
   |j=>K j fr H
  |.exit id=>K (.exit id) fr H
  |.ret=>K .ret fr H
  |.eH t=>match ac t with
   |.eH g=>match g fr.af H with
    |some (af,H)=>K .none {fr with af:=af} H
    |none=>b
   |_=>b
  |.rangeFunc f params assign body=>
   let go(fr:Fr)(H:ai)(d:ah):e:=
    fC n (gv fr.af f) [.yield H.next] (H.new (.loop .ready .none 0 fr.af params assign body d)) λ_ H'=>
     match H'.get H.next with
     |.loop st bU fn af h as bd d=>
      match st with
      |.busy=>b
      |_=>K bU fr (H'.set H.next (.loop .exhausted bU fn af h as bd d))
     |_=>b
   match fr.bx with
   |none=>go {fr with bA:=H.next::fr.bA} (H.new (.deferred false)) H.next
   |some l=>match H.get l with
    |.loop _ _ _ _ _ _ _ d=>go fr H d
    |_=>b
def aA:(n:Nat)->List bD->Fr->ai->(Fr->ai->e)->e
 |0,_,_,_,_=>b
 |_+1,[],fr,H,K=>K fr H
 |n+1,o::l,fr,H,K=>
  if d8 fr.af o.guard then
   let h:=dF fr.af H o.iy
   let after(v:AV)(H:ai):e:=
    let af:=aQ fr.af o.dst v
    let H:=dj H h.2
    if dQ af H o.re then aA n l {fr with af:=af} H K else b
   match o.op with
   |.call f args=>fC n (gv fr.af f) (args.map (gv fr.af)) h.1 after
   |.j6 d=>match rm h.1 (gv fr.af d)with
    |some (cs,a)=>ask cs.length λi=>match cs[i]? with
     |some c=>after (a c).1 (a c).2
     |none=>b
    |none=>b
   |op=>match aH op fr.af h.1 with
    |some (v,H)=>after v H
    |none=>b
  else if ka fr.af o.guard then aA n l {fr with af:=aQ fr.af o.dst .ai8} H K else b
def fC:(n:Nat)->AV->List AV->ai->(AV->ai->e)->e
 |0,_,_,_,_=>b
 |n+1,f,args,H,K=>
  match f with
  |.func f first a=>
   match ac f with
   |.none|.eH _=>b
   |.ji g=>match g (first++args++a) H with
    |some (v,H)=>K v H
    |none=>b
   |.code h results body=>
    if aih (first++args++a).length h then
    exec n body ⟨jL (first++args++a) .xH .ch,[],none⟩ H λj fr H=>
     match j with
     |.exit _=>b
     |_=>match iI H fr.bA with
      |some H=>match fH fr.af H results with
       |some l=>K (gC l) H
       |none=>b
      |none=>b
    else b
  |.yield l=>
   match H.get l with
   |.loop st bU fn af c as bd d=>
    match st with
    |.ready=>
     if args.length=c.length then
      exec n as ⟨lZ c args af,[],some l⟩ H λj fr H=>
       match j,H.get l with
       |.none,.loop .ready bU fn af c as bd' d=>
        exec n bd fr (H.set l (.loop .busy bU fn af c as bd' d)) λj _ H=>
         match H.get l with
         |.loop _ _ fn af c as bd d=>
          match j with
          |.none=>K (.bool true) (H.set l (.loop .ready .none fn af c as bd d))
          |j=>K (.bool false) (H.set l (.loop .done j fn af c as bd d))
         |_=>b
       |_,_=>b
     else b
    |_=>b
   |_=>b
  |_=>b
end
end
abbrev T:=aJ.t
abbrev C:=aJ.c
abbrev I(k n:Nat):aJ:=.c (.int k (.ofNat n))
abbrev J(k n:Nat):aJ:=.c (.int k (.negSucc n))
abbrev O(d:ah)(o:bJ):bD:=⟨some d,o,none,[],[]⟩
abbrev N(o:bJ):bD:=⟨none,o,none,[],[]⟩
abbrev R(d:ah)(o:bJ)(h:List ah)(re:List gN):bD:=⟨some d,o,none,h,re⟩
abbrev M(o:bJ)(h:List ah)(re:List gN):bD:=⟨none,o,none,h,re⟩
abbrev G(d:ah)(o:bJ)(g:ah)(b:Bool):bD:=⟨some d,o,some (g,b),[],[]⟩
abbrev G'(d:Option ah)(o:bJ)(g:ah)(b:Bool)(h:List ah)(re:List gN):bD:=⟨d,o,some (g,b),h,re⟩
abbrev i(k n:Nat):AV:=.int k (.ofNat n)
abbrev j(k n:Nat):AV:=.int k (.negSucc n)
end Go.al
end
