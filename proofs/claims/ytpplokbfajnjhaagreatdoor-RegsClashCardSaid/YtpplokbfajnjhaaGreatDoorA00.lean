/- A part. No conditions. -/
import GoSem.Step
set_option linter.all false
open Nat renaming beq->ah8,blt->aiu,ble->ai0
open BitVec renaming ofInt->ai4
open UInt8 renaming ofNat->ajK
noncomputable section
namespace Go.al
abbrev abv:=@Option.some.injEq
abbrev abP:=@List.mem_singleton
abbrev acm:=@List.getElem_mem
abbrev acI:=@List.mem_cons_self
abbrev acT:=@List.mem_cons
abbrev adT:=@List.mem_cons_of_mem
abbrev adX:=@List.mem_append
abbrev ahD:=@List.append_assoc
abbrev ahY:=@List.length_append
abbrev ah0:=@List.getElem_of_mem
abbrev ah1:=@List.mem_append_left
abbrev ah2:=@List.map_cons
abbrev ah3:=@List.getD_eq_getElem?_getD
abbrev ah6:=@List.drop_eq_getElem_cons
abbrev ah9:=@List.take_append_getElem
abbrev aia:=@List.mem_map
abbrev aic:=@List.take_of_length_le
abbrev aid:=@List.mem_append_right
abbrev aie:=@List.not_mem_nil
abbrev aig:=@List.length_map
abbrev aih:=@List.eq_nil_of_length_eq_zero
abbrev aii:=@List.perm_middle
abbrev aij:=@List.getElem?_append_left
abbrev ail:=@List.map_append
abbrev aio:=@List.mem_map_of_mem
abbrev aiq:=@List.perm_append_comm
abbrev air:=@List.length_cons
abbrev aiv:=@List.length_singleton
abbrev aiw:=@List.getElem?_map
abbrev aiy:=@List.flatMap_append
abbrev aiz:=@List.nodup_cons
abbrev aiA:=@List.length_take
abbrev aiD:=@List.getElem_map
abbrev aiF:=@List.getElem?_eq_some_iff
abbrev aiG:=@List.mem_flatMap
abbrev aiH:=@List.nodup_append
abbrev aiI:=@List.getElem?_replicate
abbrev aiJ:=@List.getElem?_eq_none
abbrev aiN:=@List.flatMap_singleton
abbrev aiO:=@List.mem_range
abbrev aiQ:=@List.getElem?_eq_getElem
abbrev aiR:=@List.cons_append
abbrev aiS:=@List.append_nil
abbrev aiW:=@List.range_succ
abbrev aiY:=@List.nil_append
abbrev aiZ:=@List.length_replicate
abbrev ai1:=@List.take_append_drop
abbrev ai2:=@List.ext_getElem
abbrev ai5:=@List.getElem?_cons_succ
abbrev ai7:=@List.map_congr_left
abbrev ai8:=@List.all_eq_true
abbrev ai9:=@List.flatMap_cons
abbrev aja:=@List.length_set
abbrev ajb:=@List.getElem?_append_right
abbrev ajc:=@List.pairwise_cons
abbrev ajd:=@List.map_replicate
abbrev ajf:=@List.take_succ_cons
abbrev ajg:=@List.take_length
abbrev ajh:=@List.map_nil
abbrev ajm:=@List.take_zero
abbrev ajr:=@List.nil_sublist
abbrev ajt:=@List.mem_of_mem_take
abbrev aju:=@List.getElem_range
abbrev ajw:=@List.length_drop
abbrev ajx:=@List.mapM_cons
abbrev ajy:=@List.map_map
abbrev ajD:=@List.nodup_nil
abbrev ajE:=@List.mem_filter
abbrev ajG:=@List.drop_zero
abbrev ab1:=@Option.bind_eq_some_iff
abbrev afN:=@Option.bind_eq_bind
abbrev af0:=@Option.map_eq_some_iff
abbrev ahZ:=@Option.pure_def
abbrev aip:=@Option.map_some
abbrev aiX:=@Option.getD_some
abbrev ajq:=@Option.bind_some
abbrev acg:=@Bool.false_eq_true
abbrev ah4:=@Bool.and_eq_true
abbrev ait:=@Bool.not_true
abbrev aiM:=@Bool.not_eq_true'
abbrev ai6:=@Bool.or_eq_true
abbrev ajp:=@Bool.eq_iff_iff
abbrev ajB:=@Bool.true_and
abbrev ajL:=@Bool.and_self
abbrev afM:=@Nat.le_refl
abbrev ah5:=@Nat.eq_of_beq_eq_true
abbrev aib:=@Nat.le_of_ble_eq_true
abbrev aif:=@Nat.zero_add
abbrev aim:=@Nat.lt_of_lt_of_le
abbrev aix:=@Nat.mul_le_mul_right
abbrev aiB:=@Nat.ble_eq_true_of_le
abbrev aiU:=@Nat.lt_or_ge
abbrev aiV:=@Nat.blt_eq
abbrev aje:=@Nat.beq_refl
abbrev aji:=@Nat.le_trans
abbrev ajn:=@Nat.add_assoc
abbrev ajo:=@Nat.mul_one
abbrev ajz:=@Nat.min_eq_left
abbrev ajA:=@Nat.add_mul
abbrev ajC:=@Nat.add_zero
abbrev ajF:=@Nat.sub_zero
abbrev ahU:=@Int.ofNat_eq_natCast
abbrev ahX:=@Int.toNat_natCast
abbrev ahW:=@Prod.mk.injEq
abbrev aik:=@List.cons.injEq
abbrev ain:=@Classical.byContradiction
abbrev ajj:=@Classical.not_not
abbrev ais:=@Array.getElem?_setIfInBounds
abbrev aiL:=@Array.getD_eq_getD_getElem?
abbrev aiT:=@Array.length_toList
abbrev ai3:=@Array.getElem?_eq_none
abbrev ajl:=@Array.getElem?_push
abbrev aiE:=@List.Sublist.refl
abbrev ajN:=@List.Perm.refl
abbrev ajH:=@Iff.rfl
abbrev ajJ:=@Ne.symm
end Go.al
namespace Go.al
theorem aa{p:Prop}(h:p:=by omega):p:=h
theorem bx{p:Prop}(h:p:=by decide):p:=h
theorem aC{p:Prop}(h:p:=by simp):p:=h
theorem an.{u}{c:Prop}{h:Decidable c}(k:¬c){g:Sort u}{t e:g}:ite c t e=e:=if_neg k
theorem aG.{u}{c:Prop}{h:Decidable c}(k:c){g:Sort u}{t e:g}:ite c t e=t:=if_pos k
theorem bi.{u}{g:Sort u}{h:Decidable True}(t e:g):ite True t e=t:=if_true t e
theorem bF.{u}{g:Sort u}{h:Decidable False}(t e:g):ite False t e=e:=if_false t e
inductive ah where
 |xH|xO(p:ah)|xI(p:ah)
 deriving DecidableEq
def ah.succ:ah->ah
 |.xH=>.xO .xH
 |.xO p=>.xI p
 |.xI p=>.xO p.succ
def ah.cG:Nat->ah
 |0=>.xH
 |t+1=>(ah.cG t).succ
inductive az(α:Type)where
 |aR
 |node(l:az α)(v:α)(r:az α)
namespace az
variable{g:Type}
def left:az g->az g
 |.aR=>.aR
 |.node l _ _=>l
def right:az g->az g
 |.aR=>.aR
 |.node _ _ r=>r
def val(d:g):az g->g
 |.aR=>d
 |.node _ v _=>v
def get(d:g):ah->az g->g
 |.xH,t=>t.val d
 |.xO p,t=>get d p t.left
 |.xI p,t=>get d p t.right
def set(d:g):ah->g->az g->az g
 |.xH,x,t=>.node t.left x t.right
 |.xO p,x,t=>.node (set d p x t.left) (t.val d) t.right
 |.xI p,x,t=>.node t.left (t.val d) (set d p x t.right)
def bp(d:g):az g->Nat->g
 |.aR,_=>d
 |.node _ v _,0=>v
 |.node l _ r,m+1=>if m % 2=0 then bp d l (m/2)else bp d r (m/2)
def lI(d:g):(fuel:Nat)->Nat->g->az g->az g
 |_,0,x,t=>.node t.left x t.right
 |0,_+1,_,t=>t
 |f+1,m+1,x,t=>
  if m % 2=0 then .node (lI d f (m/2) x t.left) (t.val d) t.right
  else .node t.left (t.val d) (lI d f (m/2) x t.right)
end az
inductive AV where
 |tuple(l:List AV)
 |agg(l:List AV)
 |bool(b:Bool)
 |int(k:Nat)(n:Int)
 |str(s:List Nat)
 |aD(id:ah)(off:Nat)
 |j5
 |slice(id:ah)(off len cap:Nat)(exact:Bool)
 |bh
 |map(id:ah)
 |cL
 |func(f:Nat)(first captured:List AV)
 |yield(id:ah)
 |nilFunc
 |iface(t:Nat)(v:AV)
 |nilIface
 |bM
 deriving Inhabited
abbrev AV.ajS:AV:=.tuple []
def AV.cells:AV->List AV
 |.agg l=>l
 |v=>[v]
def AV.cW:AV->Bool
 |.agg _|.tuple _|.bM=>false
 |_=>true
def AV.br:AV->Bool
 |.bM=>false
 |_=>true
def kc:IntKind->Nat
 |.i8=>0|.i16=>1|.i32=>2|.i64=>3|.u8=>4|.u16=>5|.u32=>6|.u64=>7
def ck:Nat->IntKind
 |0=>.i8|1=>.i16|2=>.i32|3=>.i64|4=>.u8|5=>.u16|6=>.u32|_=>.u64
inductive aJ where
 |t(p:ah)
 |c(v:AV)
inductive dA where
 |bool|int|str|aD|slice|map|func
 |iface(const empty:Bool)
 |dW(l:List (Nat×Nat×Bool×dA))
inductive bJ where
 |bg(x:aJ)
 |pick(c a b:aJ)
 |box(elem:Nat)(x:aJ)
 |alloc(elem:Nat)(zs:List AV)
 |build(zs:List AV)(dW:List (Nat×Nat×aJ))
 |buildSlice(elem len:Nat)(zs:List AV)(dW:List (Nat×Nat×aJ))
 |be(a:aJ)
 |eF(n:Nat)(a:aJ)
 |store(n:Nat)(a x:aJ)
 |nilCheck(x:aJ)
 |arith(op:BinOp)(k:Nat)(x y:aJ)
 |shift(op:BinOp)(x y:aJ)
 |kr(op:BinOp)(x y:aJ)
 |eq(neg:Bool)(d:dA)(x y:aJ)
 |unary(op:UnOp)(x:aJ)
 |ku(k:Nat)(x:aJ)
 |oJ(x:aJ)
 |mG(t:Nat)(x:aJ)
 |lf(f:Nat)(first captured:List aJ)
 |kw
 |mH(elem bytes size:Nat)(zs:List AV)(len cap:aJ)
 |gW(elem size:Nat)(x:aJ)(lo hi mx:Option aJ)
 |iU(off:Nat)(x:aJ)
 |part(agg:Bool)(off size:Nat)(x:aJ)
 |qS(n size:Nat)(x i:aJ)
 |dI(size:Nat)(x i:aJ)
 |nH(x i:aJ)
 |lookup(key:dA)(zero:AV)(ok:Bool)(m k:aJ)
 |jI(key:dA)(m k v:aJ)
 |pH(x:aJ)
 |si(it:aJ)
 |lZ(x:aJ)
 |j6(it:aJ)
 |qT(it:aJ)
 |l6
 |typeAssert(t:Nat)(zero:AV)(ok:Bool)(x:aJ)
 |extract(x:aJ)(i:Nat)
 |mI(x:aJ)
 |jd(x:aJ)
 |sj(x:aJ)
 |cap(x:aJ)
 |append(elem bytes size:Nat)(zs:List AV)(ofMake:Bool)(s x:aJ)
 |copy(size:Nat)(d s:aJ)
 |ye(zs:List AV)(x:aJ)
 |delete(key:dA)(m k:aJ)
 |mJ(isMax:Bool)(l:List aJ)
 |call(f:aJ)(args:List aJ)
structure gX where
 dst:ah
 op:bJ
 guard:Option (ah×Bool)
structure bD where
 dst:Option ah
 op:bJ
 guard:Option (ah×Bool)
 iu:List ah
 re:List gX
inductive bm where
 |skip
 |region(l:List bD)
 |seq(a b:bm)
 |cond(c:aJ)(a b:bm)
 |block(id:Nat)(b:bm)
 |loop(b:bm)
 |rangeFunc(f:aJ)(params:List ah)(assign body:bm)
 |exit(id:Nat)
 |ret
 |dL(t:Nat)
inductive bY where
 |none
 |exit(id:Nat)
 |ret
inductive pI where
 |ready|busy|done|exhausted
structure aW where
 key:AV
 val:AV
 born:Nat
inductive bP where
 |none
 |cells(c:az AV)(n:Nat)(elem:Nat)(rw:Bool)(aK:List ah)(fz:Nat)
 |map(es:List aW)(clock:Nat)
 |cS(es:List aW)
 |ky(s:List Nat)(rest:List Nat)(pos:Nat)
 |loop(st:pI)(bS:bY)(fn:Nat)(ac:az AV)(params:List ah)(assign body:bm)(defers:ah)
 |deferred(taken:Bool)
 |mapIter(m:Option ah)(since:Nat)(seen:List Nat)(last:Nat)
 deriving Inhabited
structure ai where
 t:az bP
 next:ah
def ai.get(H:ai)(i:ah):bP:=H.t.get .none i
def ai.set(H:ai)(i:ah)(o:bP):ai:=⟨H.t.set .none i o,H.next⟩
def ai.new(H:ai)(o:bP):ai:=⟨H.t.set .none H.next o,H.next.succ⟩
def ai.eG(H:ai):List ah->ai
 |[]=>H
 |i::l=>(H.set i .none).eG l
inductive gE where
 |tmp(p:ah)
 |cell(p:ah)(agg:Bool)(n:Nat)
inductive aV where
 |none
 |code(nt:Nat)(results:List gE)(body:bm)
 |fF(f:List AV->ai->Option (AV×ai))
 |dL(f:az AV->ai->Option (az AV×ai))
end Go.al
namespace Go.al
section
variable{p:Type}(h:p)(ask:Nat->(Nat->p)->p)
def gv(ac:az AV)(x:aJ):AV:=
 match x with
 |.t a=>ac.get .ajS a
 |.c v=>v
def fW(c:az AV)(n off:Nat):Nat->Option (List AV)
 |0=>some []
 |m+1=>if off<n then(match fW c n (off+1) m with|some l=>some (c.bp .ajS off::l)|none=>none)else none
def ez(c:az AV)(off:Nat):List AV->az AV
 |[]=>c
 |v::l=>ez (c.lI .ajS off off v) (off+1) l
def cq(l:List AV):az AV:=ez .aR 0 l
def dE(H:ai)(id:ah)(off m:Nat):Option (List AV):=
 match H.get id with
 |.cells c n _ _ _ _=>fW c n off m
 |_=>none
def cU:List AV->Bool
 |[]=>true
 |v::l=>v.cW&&cU l
def gF(H:ai)(id:ah)(off:Nat)(l:List AV):Option ai:=
 match H.get id with
 |.cells c n e true aK fz=>
  if decide (fz<=off)&&decide (off+l.length<=n)&&cU l then some ((H.eG aK).set id (.cells (ez c off l) n e true [] fz))else none
 |_=>none
def iG:List Nat->List Nat->Bool
 |[],[]=>true
 |a::l,b::m=>ah8 a b&&iG l m
 |_,_=>false
def oK:List Nat->List Nat->Bool
 |_,[]=>false
 |[],_::_=>true
 |a::l,b::m=>aiu a b||(ah8 a b&&oK l m)
def ah.beq:ah->ah->Bool
 |.xH,.xH=>true
 |.xO a,.xO q=>ah.beq a q
 |.xI a,.xI q=>ah.beq a q
 |_,_=>false
def gw:Int->Int->Bool
 |.ofNat a,.ofNat b=>ah8 a b
 |.negSucc a,.negSucc b=>ah8 a b
 |_,_=>false
def jJ:Int->Int->Bool
 |.ofNat a,.ofNat b=>aiu a b
 |.negSucc a,.negSucc b=>aiu b a
 |.negSucc _,.ofNat _=>true
 |.ofNat _,.negSucc _=>false
def pJ(agg:Bool)(l:List AV)(off size:Nat):Option AV:=
 if agg then some (.agg ((l.drop off).take size))else(l.drop off).head?
def db:(fuel:Nat)->dA->AV->AV->Option Bool
 |_,.bool,.bool a,.bool b=>some (a==b)
 |_,.int,.int k a,.int l b=>if k=l then some (gw a b)else none
 |_,.str,.str a,.str b=>some (iG a b)
 |_,.aD,.j5,.j5=>some true
 |_,.aD,.j5,.aD _ _=>some false
 |_,.aD,.aD _ _,.j5=>some false
 |_,.aD,.aD a i,.aD b j=>if ah.beq a b then some (ah8 i j)else none
 |_,.slice,.bh,.bh=>some true
 |_,.slice,.bh,.slice .. =>some false
 |_,.slice,.slice ..,.bh=>some false
 |_,.map,.cL,.cL=>some true
 |_,.map,.cL,.map _=>some false
 |_,.map,.map _,.cL=>some false
 |_,.func,.nilFunc,.nilFunc=>some true
 |_,.func,.nilFunc,.func .. =>some false
 |_,.func,.func ..,.nilFunc=>some false
 |_,.func,.nilFunc,.yield _=>some false
 |_,.func,.yield _,.nilFunc=>some false
 |_,.iface const empty,.nilIface,.nilIface=>if const||empty then some true else none
 |_,.iface _ _,.nilIface,.iface _ _=>some false
 |_,.iface _ _,.iface _ _,.nilIface=>some false
 |_,.iface _ _,.iface t _,.iface u _=>if ah8 t u then none else some false
 |f+1,.dW g,.agg c,.agg e=>go f c e g
 |_,_,_,_=>none
where
 go:(fuel:Nat)->List AV->List AV->List (Nat×Nat×Bool×dA)->Option Bool
  |_,_,_,[]=>some true
  |0,_,_,_::_=>none
  |f+1,c,e,(off,size,agg,d)::g=>
   match pJ agg c off size,pJ agg e off size with
   |some x,some y=>
    match db f d x y with
    |some true=>go f c e g
    |some false=>some false
    |none=>none
   |_,_=>none
def lg(k:Nat)(n:Int):Int:=(ck k).wrap n
def fX(k:Nat)(n:Int):Int:=
 match k,n with
 |3,.ofNat m=>if aiu m 9223372036854775808 then .ofNat m else lg 3 (.ofNat m)
 |3,.negSucc m=>if aiu m 9223372036854775808 then .negSucc m else lg 3 (.negSucc m)
 |4,.ofNat m=>if aiu m 256 then .ofNat m else lg 4 (.ofNat m)
 |k,n=>lg k n
def fG(op:BinOp)(k:Nat)(a b:Int):Option AV:=
 match op with
 |.add=>some (.int k (fX k (a+b)))
 |.sub=>some (.int k (fX k (a - b)))
 |.mul=>some (.int k (fX k (a*b)))
 |.quo=>if b=0 then none else some (.int k (fX k (a.tdiv b)))
 |.rem=>if b=0 then none else some (.int k (a.tmod b))
 |.and=>some (.int k (lg k (ai4 (ck k).bits a&&&ai4 (ck k).bits b).toNat))
 |.or=>some (.int k (lg k (ai4 (ck k).bits a|||ai4 (ck k).bits b).toNat))
 |.xor=>some (.int k (lg k (ai4 (ck k).bits a^^^ai4 (ck k).bits b).toNat))
 |.andNot=>some (.int k (lg k (ai4 (ck k).bits a&&& ~~~ai4 (ck k).bits b).toNat))
 |.eql=>some (.bool (gw a b))
 |.neq=>some (.bool (!gw a b))
 |.lss=>some (.bool (jJ a b))
 |.leq=>some (.bool (!jJ b a))
 |.gtr=>some (.bool (jJ b a))
 |.geq=>some (.bool (!jJ a b))
 |_=>none
def yf(op:BinOp)(k:Nat)(x y:AV):Option AV:=
 match x,y with
 |.int j a,.int l b=>if ah8 j k&&ah8 l k then fG op k a b else none
 |_,_=>none
def Au(op:BinOp)(x y:AV):Option AV:=
 match x,y with
 |.int k a,.int _ (.ofNat b)=>
  let n:=min b (ck k).bits
  match op with
  |.shl=>some (.int k (fX k (a*2^n)))
  |.shr=>some (.int k (a.fdiv (2^n)))
  |_=>none
 |_,_=>none
def vL(op:BinOp)(x y:AV):Option AV:=
 match x,y with
 |.str a,.str b=>
  match op with
  |.add=>if a.length+b.length<4294967296 then some (.str (a++b))else none
  |.eql=>some (.bool (iG a b))
  |.neq=>some (.bool (!iG a b))
  |.lss=>some (.bool (oK a b))
  |.leq=>some (.bool (!oK b a))
  |.gtr=>some (.bool (oK b a))
  |.geq=>some (.bool (!oK a b))
  |_=>none
 |_,_=>none
def Av(op:UnOp)(x:AV):Option AV:=
 match op,x with
 |.neg,.int k n=>some (.int k (fX k (0 - n)))
 |.xor,.int k n=>fG .xor k (if(ck k).signed then -1 else(ck k).max) n
 |.not,.bool b=>some (.bool !b)
 |_,_=>none
def qU(l:List AV):(off:Nat)->List AV->Option (List AV)
 |0,[]=>some l
 |0,v::a=>match l with
  |[]=>none
  |_::l=>match qU l 0 a with|some b=>some (v::b)|none=>none
 |off+1,a=>match l with
  |[]=>none
  |x::l=>match qU l off a with|some b=>some (x::b)|none=>none
def lJ(ac:az AV)(l:List AV):List (Nat×Nat×aJ)->Option (List AV)
 |[]=>some l
 |(off,size,x)::a=>
  let b:=(gv ac x).cells
  if(gv ac x).br&&decide (b.length=size)then(match qU l off b with|some c=>lJ ac c a|none=>none)else none
def dY(a:List AV):Nat->List AV
 |0=>[]
 |n+1=>a++dY a n
def lL(x:AV)(y:Nat):Option Nat:=
 match x with
 |.int _ (.ofNat i)=>if ai0 i y then some i else none
 |_=>none
def jq(ac:az AV)(x:Option aJ)(d y:Nat):Option Nat:=
 match x with
 |some x=>lL (gv ac x) y
 |none=>some d
def findKey(d:dA)(k:AV):List aW->Nat->Option (Option (Nat×AV))
 |[],_=>some none
 |e::es,i=>
  match db 64 d k e.key with
  |some true=>some (some (i,e.val))
  |some false=>findKey d k es (i+1)
  |none=>none
def qV:dA->Bool
 |.int|.str|.bool=>true
 |_=>false
def eN(d:dA)(k:AV)(es:List aW):Option (Option AV):=if qV d then go es else none
where
 go:List aW->Option (Option AV)
  |[]=>some none
  |e::es=>match db 64 d k e.key,go es with
   |some true,some none=>some (some e.val)
   |some false,some r=>some r
   |_,_=>none
def kO(d:dA)(k:AV)(e:aW):Bool:=
 match db 64 d k e.key with
 |some b=>b
 |none=>false
def j7(d:dA)(k v:AV):List aW->List aW
 |[]=>[]
 |e::es=>(if kO d k e then{e with key:=k,val:=v}else e)::j7 d k v es
def kP(d:dA)(k:AV):List aW->List aW
 |[]=>[]
 |e::es=>if kO d k e then kP d k es else e::kP d k es
def kz(v:AV)(k:AV):List aW->Nat->List aW
 |[],_=>[]
 |e::es,0=>{e with key:=k,val:=v}::es
 |e::es,i+1=>e::kz v k es i
def mK:List aW->Nat->List aW
 |[],_=>[]
 |_::es,0=>es
 |e::es,i+1=>e::mK es i
def pK(b:Nat):List aW->Nat->Option Nat
 |[],_=>none
 |e::es,i=>if ah8 e.born b then some i else pK b es (i+1)
def fY(H:ai)(size:Nat)(x:AV):Option (Nat×List AV):=
 match x with
 |.bh=>some (0,[])
 |.slice id off len _ _=>match dE H id off (len*size)with|some l=>some (len,l)|none=>none
 |.str s=>if ah8 size 1 then some (s.length,s.map λn=>.int 4 (.ofNat n))else none
 |_=>none
def dT(n:Nat):Bool:=ai0 n 70368744177664
def je(b bytes size:Nat)(H:ai)(s:AV)(n:Nat)(l:List AV):Option (AV×ai):=
 if !cU l then none else
 match s with
 |.bh=>
  if ah8 n 0 then some (.bh,H)
  else if dT (n*bytes)&&dT n then some (.slice H.next 0 n n false,H.new (.cells (cq l) (n*size) b true [] 0))else none
 |.slice id off len cap exact=>
  let a:=len+n
  if ai0 a cap then
   if ah8 n 0 then some (.slice id off a cap exact,H)else
   match gF H id (off+len*size) l with
   |some H'=>some (.slice id off a cap exact,H')
   |none=>none
  else if !(dT (a*bytes)&&dT a)then none else
   match H.get id with
   |.cells c m e rw aK fz=>
    match fW c m off (len*size)with
    |none=>none
    |some cM=>
     if exact then some (.slice H.next 0 a a false,H.new (.cells (cq (cM++l)) (a*size) b true [] 0))
     else if rw&&ah8 len cap&&ah8 (off+cap*size) m&&ah8 e b&&ai0 fz m then
      some (.slice H.next 0 a a false,(H.set id (.cells c m e false aK fz)).new (.cells (cq (cM++l)) (a*size) b true (id::aK) (fz - off)))
     else none
   |_=>none
 |_=>none
def gY(H:ai)(a:AV)(n:Nat)(agg:Bool):Option AV:=
 match a with
 |.aD id off=>
  match dE H id off n with
  |some l=>if agg then some (.agg l)else l.head?
  |none=>none
 |_=>none
def vM(c:Bool):AV->List AV->Option AV
 |x,[]=>some x
 |.int k a,.int l b::d=>if ah8 k l then vM c (.int k (if c then(if jJ a b then b else a)else(if jJ b a then b else a))) d else none
 |_,_=>none
def CW:AV->Option Nat
 |.int 4 (.ofNat n)=>if aiu n 256 then some n else none
 |_=>none
def tV:List AV->Option (List Nat)
 |[]=>some []
 |v::l=>match CW v,tV l with
  |some n,some r=>some (n::r)
  |_,_=>none
def yg:List Nat->Nat->Option Nat
 |[],_=>none
 |a::_,0=>some a
 |_::l,i+1=>yg l i
def nI:List AV->Nat->Option AV
 |[],_=>none
 |a::_,0=>some a
 |_::l,i+1=>nI l i
def pM:(fuel:Nat)->dA->AV->Bool
 |_,.bool,.bool _=>true
 |_,.int,.int _ _=>true
 |_,.str,.str _=>true
 |_,.aD,.aD _ _=>true
 |_,.aD,.j5=>true
 |f+1,.dW b,.agg a=>go f a b
 |_,_,_=>false
where
 go:(fuel:Nat)->List AV->List (Nat×Nat×Bool×dA)->Bool
  |_,_,[]=>true
  |0,_,_::_=>false
  |f+1,a,(off,size,agg,d)::b=>match pJ agg a off size with
   |some x=>pM f d x&&go f a b
   |none=>false
def iH(d:dA)(k:AV):Bool:=
 match d with
 |.dW _=>pM 64 d k
 |.iface _ _=>false
 |_=>true
def CX:AV->AV->Bool
 |.bool a,.bool b=>a==b
 |.int j a,.int k b=>ah8 j k&&gw a b
 |.str a,.str b=>iG a b
 |_,_=>false
def vN:List AV->List AV->Bool
 |[],[]=>true
 |a::l,b::m=>CX a b&&vN l m
 |_,_=>false
def vO(d:dA)(k:AV):List aW->Nat->Bool
 |[],_=>false
 |e::_,0=>match d,k,e.key with
  |.dW _,.agg l,.agg m=>vN l m
  |.dW _,_,_=>false
  |_,_,_=>true
 |_::es,i+1=>vO d k es i
def pN(H:ai)(id:ah)(a:Nat):Bool:=
 match H.get id with
 |.cells _ _ e _ _ _=>ah8 e a
 |_=>false
def u8(s:List Nat)(a:Nat):Nat×Nat:=Utf8.decode ⟨(s.map ajK).toArray⟩ a
def aH(o:bJ)(ac:az AV)(H:ai):Option (AV×ai):=
 let pure(v:AV):Option (AV×ai):=some (v,H)
 let q(v:Option AV):Option (AV×ai):=v.map λv=>(v,H)
 match o with
 |.bg x=>pure (gv ac x)
 |.pick c a b=>match gv ac c with
  |.bool t=>pure (if t then gv ac a else gv ac b)
  |_=>none
 |.box r x=>
  let l:=(gv ac x).cells
  if cU l then some (.aD H.next 0,H.new (.cells (cq l) l.length r true [] 0))else none
 |.alloc r A=>some (.aD H.next 0,H.new (.cells (cq A) A.length r true [] 0))
 |.build A dW=>q ((lJ ac A dW).map .agg)
 |.buildSlice r len A dW=>
  match lJ ac (dY A len) dW with
  |some l=>if cU l then some (.slice H.next 0 len len true,H.new (.cells (cq l) l.length r true [] 0))else none
  |none=>none
 |.be a=>q (gY H (gv ac a) 1 false)
 |.eF n a=>q (gY H (gv ac a) n true)
 |.store n a x=>
  match gv ac a with
  |.aD id off=>
   let l:=(gv ac x).cells
   if l.length=n then(match gF H id off l with|some H'=>some (.ajS,H')|none=>none)else none
  |_=>none
 |.nilCheck x=>match gv ac x with
  |.aD id off=>pure (.aD id off)
  |.func f a b=>pure (.func f a b)
  |.yield l=>pure (.yield l)
  |.iface t v=>pure (.iface t v)
  |.map m=>pure (.map m)
  |.slice a b c d e=>pure (.slice a b c d e)
  |_=>none
 |.arith op k x y=>q (yf op k (gv ac x) (gv ac y))
 |.shift op x y=>q (Au op (gv ac x) (gv ac y))
 |.kr op x y=>q (vL op (gv ac x) (gv ac y))
 |.eq neg d x y=>q ((db 64 d (gv ac x) (gv ac y)).map λb=>.bool (b !=neg))
 |.unary op x=>q (Av op (gv ac x))
 |.ku k x=>match gv ac x with
  |.int _ n=>pure (.int k (fX k n))
  |_=>none
 |.oJ x=>match gv ac x with
  |.bh=>pure (.str [])
  |.slice id off len _ _=>match dE H id off len with
   |some l=>(tV l).map λs=>(.str s,H)
   |none=>none
  |_=>none
 |.mG t x=>pure (.iface t (gv ac x))
 |.lf f a b=>pure (.func f (a.map (gv ac)) (b.map (gv ac)))
 |.kw=>some (.map H.next,H.new (.map [] 0))
 |.mH r bytes size A len cap=>
  match gv ac len,gv ac cap with
  |.int 3 (.ofNat l),.int 3 (.ofNat c)=>
   if ai0 l c&&dT (c*bytes)&&dT c then some (.slice H.next 0 l c true,H.new (.cells (cq (dY A c)) (c*size) r true [] 0))else none
  |_,_=>none
 |.gW r size x lo hi E=>
  match gv ac x with
  |.bh=>do
   let m<-jq ac E 0 0
   let G<-jq ac hi 0 m
   let _<-jq ac lo 0 G
   some (.bh,H)
  |.slice id off len cap exact=>do
   let m<-jq ac E cap cap
   let G<-jq ac hi len m
   let l<-jq ac lo 0 G
   if exact||E.isSome||lo.isNone||pN H id r then
    some (.slice id (if exact&&m=l then off else off+l*size) (G - l) (m - l) (exact||E.isSome),H)
   else none
  |_=>none
 |.iU off x=>match gv ac x with
  |.aD id o=>pure (.aD id (o+off))
  |_=>none
 |.part agg off size x=>match gv ac x with
  |.agg l=>q (pJ agg l off size)
  |_=>none
 |.qS n size x i=>match gv ac x,gv ac i with
  |.aD id o,.int _ (.ofNat j)=>if aiu j n then pure (.aD id (o+j*size))else none
  |_,_=>none
 |.dI size x i=>match gv ac x,gv ac i with
  |.slice id o len _ _,.int _ (.ofNat j)=>if aiu j len then pure (.aD id (o+j*size))else none
  |_,_=>none
 |.nH x i=>match gv ac x,gv ac i with
  |.str s,.int _ (.ofNat j)=>q ((yg s j).map λn=>.int 4 (.ofNat n))
  |_,_=>none
 |.lookup key zero ok m k=>
  if !iH key (gv ac k)then none else
  let aq(v:AV)(b:Bool):Option (AV×ai):=pure (if ok then .tuple [v,.bool b]else v)
  match gv ac m with
  |.cL=>aq zero false
  |.map id=>match H.get id with
   |.map es _=>match findKey key (gv ac k) es 0 with
    |some (some (_,v))=>aq v true
    |some none=>aq zero false
    |none=>none
   |.cS es=>match eN key (gv ac k) es with
    |some (some v)=>aq v true
    |some none=>aq zero false
    |none=>none
   |_=>none
  |_=>none
 |.jI key m k v=>
  if !iH key (gv ac k)then none else
  match gv ac m with
  |.map id=>match H.get id with
   |.map es g=>match findKey key (gv ac k) es 0 with
    |some (some (i,_))=>if vO key (gv ac k) es i then some (.ajS,H.set id (.map (kz (gv ac v) (gv ac k) es i) g))else none
    |some none=>some (.ajS,H.set id (.map (es++[⟨gv ac k,gv ac v,g⟩]) (g+1)))
    |none=>none
   |.cS es=>match eN key (gv ac k) es with
    |some (some _)=>some (.ajS,H.set id (.cS (j7 key (gv ac k) (gv ac v) es)))
    |some none=>some (.ajS,H.set id (.cS (es++[⟨gv ac k,gv ac v,0⟩])))
    |none=>none
   |_=>none
  |_=>none
 |.pH x=>match gv ac x with
  |.str s=>some (.aD H.next 0,H.new (.ky s s 0))
  |_=>none
 |.si F=>match gv ac F with
  |.aD id 0=>match H.get id with
   |.ky s z w=>match z with
    |[]=>pure (.tuple [.bool false])
    |c::z=>if aiu c 128 then some (.tuple [.bool true,.int 3 (.ofNat w),.int 2 (.ofNat c)],H.set id (.ky s z (w+1)))else some (.tuple [.bool true,.int 3 (.ofNat w),.int 2 (.ofNat (u8 s w).1)],H.set id (.ky s (s.drop (w+(u8 s w).2)) (w+(u8 s w).2)))
   |_=>none
  |_=>none
 |.lZ x=>match gv ac x with
  |.cL=>some (.aD H.next 0,H.new (.mapIter none 0 [] 0))
  |.map m=>match H.get m with
   |.map _ g=>some (.aD H.next 0,H.new (.mapIter (some m) g [] g))
   |_=>none
  |_=>none
 |.j6 _|.l6=>none
 |.qT F=>match gv ac F with
  |.aD id 0=>match H.get id with
   |.mapIter (some m) _ seen D=>match seen.getLast?,H.get m with
    |some b,.map es g=>if ah8 g D then(match pK b es 0 with
     |some i=>match es[i]? with
      |some e=>pure (.tuple [e.key,e.val])
      |none=>none
     |none=>none)else none
    |_,_=>none
   |_=>none
  |_=>none
 |.typeAssert t zero ok x=>match gv ac x with
  |.nilIface=>if ok then pure (.tuple [zero,.bool false])else none
  |.iface u v=>if ah8 u t then pure (if ok then .tuple [v,.bool true]else v)else if ok then pure (.tuple [zero,.bool false])else none
  |_=>none
 |.extract x i=>match gv ac x with
  |.tuple l=>q (nI l i)
  |_=>none
 |.mI x=>match gv ac x with
  |.str s=>pure (.int 3 (.ofNat s.length))
  |_=>none
 |.jd x=>match gv ac x with
  |.slice _ _ n _ _=>pure (.int 3 (.ofNat n))
  |.bh=>pure (.int 3 (.ofNat 0))
  |_=>none
 |.sj x=>match gv ac x with
  |.cL=>pure (.int 3 (.ofNat 0))
  |.map id=>match H.get id with
   |.map es _=>pure (.int 3 (.ofNat es.length))
   |.cS es=>pure (.int 3 (.ofNat es.length))
   |_=>none
  |_=>none
 |.cap x=>match gv ac x with
  |.slice _ _ _ n true=>pure (.int 3 (.ofNat n))
  |.bh=>pure (.int 3 (.ofNat 0))
  |_=>none
 |.append r bytes size A B s x=>
  if B then
   match gv ac x with
   |.int 3 (.ofNat n)=>if dT (n*bytes)&&dT n then je r bytes size H (gv ac s) n (dY A n)else none
   |_=>none
  else
   match fY H size (gv ac x)with
   |some (n,l)=>je r bytes size H (gv ac s) n l
   |none=>none
 |.copy size d s=>
  match gv ac d,fY H size (gv ac s)with
  |.bh,some _=>pure (.int 3 (.ofNat 0))
  |.slice id off len _ _,some (n,l)=>
   let m:=min n len
   if m=0 then pure (.int 3 (.ofNat 0))else
   match gF H id off (l.take (m*size))with
   |some H'=>some (.int 3 (.ofNat m),H')
   |none=>none
  |_,_=>none
 |.ye A x=>match gv ac x with
  |.bh=>pure .ajS
  |.slice id off n _ _=>if n=0 then pure .ajS else match gF H id off (dY A n)with
   |some H'=>some (.ajS,H')
   |none=>none
  |_=>none
 |.delete key m k=>
  if !iH key (gv ac k)then none else
  match gv ac m with
  |.cL=>pure .ajS
  |.map id=>match H.get id with
   |.map es g=>match findKey key (gv ac k) es 0 with
    |some (some (i,_))=>some (.ajS,H.set id (.map (mK es i) g))
    |some none=>some (.ajS,H.set id (.map es g))
    |none=>none
   |.cS es=>match eN key (gv ac k) es with
    |some _=>some (.ajS,H.set id (.cS (kP key (gv ac k) es)))
    |none=>none
   |_=>none
  |_=>none
 |.mJ C l=>match l.map (gv ac)with
  |x::z=>q (vM C x z)
  |[]=>none
 |.call _ _=>none
def qW(H:ai)(f:AV):Option (List (Option aW)×(Option aW->AV×ai)):=
 match f with
 |.aD id 0=>match H.get id with
  |.mapIter none _ _ _=>some ([none],λ_=>(.tuple [.bool false],H))
  |.mapIter (some m) a seen d=>match H.get m with
   |.map es b=>
    if !seen.isEmpty&&!es.isEmpty&&es.all (λe=>ai0 d e.born)then none else
    let left:=es.filter λe=>!seen.contains e.born
    let cM:=left.filter λe=>aiu e.born a
    let new:=left.filter λe=>!aiu e.born a
    some ((if cM.isEmpty then[none]else[])++(cM++new).map some,λc=>match c with
     |some e=>(.tuple [.bool true,e.key,e.val],H.set id (.mapIter (some m) a (seen++[e.born]) b))
     |none=>(.tuple [.bool false],H))
   |_=>none
  |_=>none
 |_=>none
def cC:AV->AV->Bool
 |.bool a,.bool b=>a==b
 |.int k a,.int l b=>ah8 k l&&gw a b
 |.str a,.str b=>iG a b
 |.aD a i,.aD b j=>ah.beq a b&&ah8 i j
 |.j5,.j5=>true
 |.slice a i j k e,.slice b l m n f=>ah.beq a b&&ah8 i l&&ah8 j m&&ah8 k n&&(e==f)
 |.bh,.bh=>true
 |.map a,.map b=>ah.beq a b
 |.cL,.cL=>true
 |.yield a,.yield b=>ah.beq a b
 |.nilFunc,.nilFunc=>true
 |.nilIface,.nilIface=>true
 |_,_=>false
def j8:List AV->List AV->Bool
 |[],[]=>true
 |a::l,b::m=>cC a b&&j8 l m
 |_,_=>false
def eV:AV->AV->Bool
 |.agg l,.agg m=>j8 l m
 |.tuple l,.tuple m=>j8 l m
 |.func f a b,.func g c d=>ah8 f g&&j8 a c&&j8 b d
 |a,b=>cC a b
def gZ:AV->Option ah
 |.aD i _=>some i
 |.slice i _ _ _ _=>some i
 |.map i=>some i
 |_=>none
def dF(ac:az AV)(H:ai):List ah->ai×List (ah×bP)
 |[]=>(H,[])
 |a::l=>match gZ (ac.get .ajS a)with
  |some i=>let r:=dF ac (H.set i .none) l;(r.1,(i,H.get i)::r.2)
  |none=>dF ac H l
def di(H:ai):List (ah×bP)->ai
 |[]=>H
 |(i,o)::l=>(di H l).set i o
def jf:List AV->ah->az AV->az AV
 |[],_,t=>t
 |v::l,a,t=>jf l a.succ (t.set .ajS a v)
def l7:List ah->List AV->az AV->az AV
 |c::a,v::b,t=>l7 a b (t.set .ajS c v)
 |_,_,t=>t
def fc(ac:az AV)(H:ai):List gE->Option (List AV)
 |[]=>some []
 |.tmp a::l=>(fc ac H l).map (ac.get .ajS a::·)
 |.cell a agg n::l=>match gY H (ac.get .ajS a) n agg,fc ac H l with
  |some v,some r=>some (v::r)
  |_,_=>none
def fZ:List AV->AV
 |[v]=>v
 |l=>.tuple l
structure Fr where
 ac:az AV
 bA:List ah
 bz:Option ah
def aO(ac:az AV)(d:Option ah)(v:AV):az AV:=
 match d with
 |some a=>ac.set .ajS a v
 |none=>ac
def dZ(ac:az AV):Option (ah×Bool)->Bool
 |none=>true
 |some (c,a)=>match ac.get .ajS c with
  |.bool b=>b==a
  |_=>false
def j9(ac:az AV):Option (ah×Bool)->Bool
 |none=>true
 |some (a,_)=>(ac.get .ajS a).br
def dX(ac:az AV)(H:ai):List gX->Bool
 |[]=>true
 |r::l=>
  (if dZ ac r.guard then(match aH r.op ac H with
    |some (w,_)=>eV (ac.get .ajS r.dst) w
    |none=>false)else true)&&dX ac H l
def iw(H:ai):List ah->Option ai
 |[]=>some H
 |i::l=>match H.get i with
  |.deferred false=>iw (H.set i (.deferred true)) l
  |_=>none
variable(ab:Nat->aV)
mutual
def exec:(n:Nat)->bm->Fr->ai->(bY->Fr->ai->p)->p
 |0,_,_,_,_=>h
 |n+1,c,fr,H,K=>
  match c with
  |.skip=>K .none fr H
  |.region l=>aB n l fr H (K .none)
  |.seq a b=>exec n a fr H λj fr H=>match j with
   |.none=>exec n b fr H K
   |j=>K j fr H
  |.cond c a b=>match gv fr.ac c with
   |.bool true=>exec n a fr H K
   |.bool false=>exec n b fr H K
   |_=>h
  |.block id b=>exec n b fr H λj fr H=>match j with
   |.exit i=>if ah8 i id then K .none fr H else K (.exit i) fr H
   |j=>K j fr H
  |.loop b=>exec n b fr H λj fr H=>match j with
   |.none=>exec n (.loop b) fr H K
   |j=>K j fr H
  |.exit id=>K (.exit id) fr H
  |.ret=>K .ret fr H
  |.dL t=>match ab t with
   |.dL g=>match g fr.ac H with
    |some (ac,H)=>K .none {fr with ac:=ac} H
    |none=>h
   |_=>h
  |.rangeFunc f params assign body=>
   let go(fr:Fr)(H:ai)(d:ah):p:=
    fu n (gv fr.ac f) [.yield H.next] (H.new (.loop .ready .none 0 fr.ac params assign body d)) λ_ H'=>
     match H'.get H.next with
     |.loop st bS fn ac e as bd d=>
      match st with
      |.busy=>h
      |_=>K bS fr (H'.set H.next (.loop .exhausted bS fn ac e as bd d))
     |_=>h
   match fr.bz with
   |none=>go {fr with bA:=H.next::fr.bA} (H.new (.deferred false)) H.next
   |some l=>match H.get l with
    |.loop _ _ _ _ _ _ _ d=>go fr H d
    |_=>h
def aB:(n:Nat)->List bD->Fr->ai->(Fr->ai->p)->p
 |0,_,_,_,_=>h
 |_+1,[],fr,H,K=>K fr H
 |n+1,o::l,fr,H,K=>
  if dZ fr.ac o.guard then
   let d:=dF fr.ac H o.iu
   let after(v:AV)(H:ai):p:=
    let ac:=aO fr.ac o.dst v
    let H:=di H d.2
    if dX ac H o.re then aB n l {fr with ac:=ac} H K else h
   match o.op with
   |.call f args=>fu n (gv fr.ac f) (args.map (gv fr.ac)) d.1 after
   |.j6 b=>match qW d.1 (gv fr.ac b)with
    |some (cs,a)=>ask cs.length λi=>match cs[i]? with
     |some c=>after (a c).1 (a c).2
     |none=>h
    |none=>h
   |op=>match aH op fr.ac d.1 with
    |some (v,H)=>after v H
    |none=>h
  else if j9 fr.ac o.guard then aB n l {fr with ac:=aO fr.ac o.dst .ajS} H K else h
def fu:(n:Nat)->AV->List AV->ai->(AV->ai->p)->p
 |0,_,_,_,_=>h
 |n+1,f,args,H,K=>
  match f with
  |.func f first a=>
   match ab f with
   |.none|.dL _=>h
   |.fF g=>match g (first++args++a) H with
    |some (v,H)=>K v H
    |none=>h
   |.code c results body=>
    if ai0 (first++args++a).length c then
    exec n body ⟨jf (first++args++a) .xH .aR,[],none⟩ H λj fr H=>
     match j with
     |.exit _=>h
     |_=>match iw H fr.bA with
      |some H=>match fc fr.ac H results with
       |some l=>K (fZ l) H
       |none=>h
      |none=>h
    else h
  |.yield l=>
   match H.get l with
   |.loop st bS fn ac b as bd d=>
    match st with
    |.ready=>
     if args.length=b.length then
      exec n as ⟨l7 b args ac,[],some l⟩ H λj fr H=>
       match j,H.get l with
       |.none,.loop .ready bS fn ac b as bd' d=>
        exec n bd fr (H.set l (.loop .busy bS fn ac b as bd' d)) λj _ H=>
         match H.get l with
         |.loop _ _ fn ac b as bd d=>
          match j with
          |.none=>K (.bool true) (H.set l (.loop .ready .none fn ac b as bd d))
          |j=>K (.bool false) (H.set l (.loop .done j fn ac b as bd d))
         |_=>h
       |_,_=>h
     else h
    |_=>h
   |_=>h
  |_=>h
end
end
abbrev T:=aJ.t
abbrev C:=aJ.c
abbrev I(k n:Nat):aJ:=.c (.int k (.ofNat n))
abbrev J(k n:Nat):aJ:=.c (.int k (.negSucc n))
abbrev O(d:ah)(o:bJ):bD:=⟨some d,o,none,[],[]⟩
abbrev N(o:bJ):bD:=⟨none,o,none,[],[]⟩
abbrev R(d:ah)(o:bJ)(h:List ah)(re:List gX):bD:=⟨some d,o,none,h,re⟩
abbrev M(o:bJ)(h:List ah)(re:List gX):bD:=⟨none,o,none,h,re⟩
abbrev G(d:ah)(o:bJ)(g:ah)(b:Bool):bD:=⟨some d,o,some (g,b),[],[]⟩
abbrev G'(d:Option ah)(o:bJ)(g:ah)(b:Bool)(h:List ah)(re:List gX):bD:=⟨d,o,some (g,b),h,re⟩
abbrev i(k n:Nat):AV:=.int k (.ofNat n)
abbrev j(k n:Nat):AV:=.int k (.negSucc n)
end Go.al
end
