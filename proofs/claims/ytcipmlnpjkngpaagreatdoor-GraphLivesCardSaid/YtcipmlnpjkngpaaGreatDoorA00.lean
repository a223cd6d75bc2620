/- A part. No conditions. -/
import GoSem.Step
set_option linter.all false
open Nat renaming beq->aeF,blt->ae0,ble->afx
open BitVec renaming ofInt->afr
open UInt8 renaming ofNat->agp
noncomputable section
namespace Go.ak
abbrev aas:=@Option.some.injEq
abbrev aaw:=@Option.bind_eq_some_iff
abbrev aep:=@Option.bind_eq_bind
abbrev aes:=@Option.map_eq_some_iff
abbrev aet:=@Option.pure_def
abbrev aeT:=@Option.map_some
abbrev afc:=@Option.getD_some
abbrev afY:=@Option.bind_some
abbrev aaN:=@List.mem_singleton
abbrev acm:=@List.mem_cons_self
abbrev acI:=@List.getElem_mem
abbrev aen:=@List.mem_cons_of_mem
abbrev aer:=@List.mem_cons
abbrev aeu:=@List.mem_append
abbrev aex:=@List.length_append
abbrev aez:=@List.map_cons
abbrev aeB:=@List.getElem_of_mem
abbrev aeC:=@List.append_assoc
abbrev aeD:=@List.getD_eq_getElem?_getD
abbrev aeE:=@List.drop_eq_getElem_cons
abbrev aeI:=@List.take_of_length_le
abbrev aeJ:=@List.length_cons
abbrev aeK:=@List.mem_map
abbrev aeM:=@List.getElem?_append_left
abbrev aeN:=@List.mem_append_left
abbrev aeO:=@List.take_append_getElem
abbrev aeP:=@List.length_take
abbrev aeQ:=@List.eq_nil_of_length_eq_zero
abbrev aeR:=@List.length_map
abbrev aeS:=@List.not_mem_nil
abbrev aeU:=@List.mem_append_right
abbrev aeX:=@List.mem_map_of_mem
abbrev aeZ:=@List.map_append
abbrev ae4:=@List.perm_append_comm
abbrev ae5:=@List.getElem?_map
abbrev ae7:=@List.getElem?_eq_some_iff
abbrev ae8:=@List.length_singleton
abbrev ae9:=@List.flatMap_append
abbrev afa:=@List.nodup_append
abbrev afb:=@List.getElem?_replicate
abbrev afd:=@List.perm_middle
abbrev afh:=@List.getElem?_cons_succ
abbrev afk:=@List.cons_append
abbrev afl:=@List.flatMap_singleton
abbrev afn:=@List.getElem?_append_right
abbrev afo:=@List.getElem?_eq_getElem
abbrev afp:=@List.flatMap_cons
abbrev afu:=@List.append_nil
abbrev afv:=@List.all_eq_true
abbrev afw:=@List.getElem_map
abbrev afz:=@List.nil_append
abbrev afB:=@List.length_replicate
abbrev afC:=@List.map_nil
abbrev afE:=@List.take_zero
abbrev afF:=@List.length_drop
abbrev afH:=@List.getElem?_eq_none
abbrev afI:=@List.take_append_drop
abbrev afJ:=@List.take_succ_cons
abbrev afK:=@List.map_congr_left
abbrev afO:=@List.mem_flatMap
abbrev afQ:=@List.length_set
abbrev afR:=@List.mem_range
abbrev afS:=@List.map_replicate
abbrev afV:=@List.range_succ
abbrev afW:=@List.pairwise_cons
abbrev afX:=@List.nodup_cons
abbrev afZ:=@List.getElem?_cons_zero
abbrev af1:=@List.mem_of_mem_take
abbrev af3:=@List.drop_of_length_le
abbrev af4:=@List.take_length
abbrev af8:=@List.map_map
abbrev aga:=@List.mem_reverse
abbrev agb:=@List.ext_getElem
abbrev agc:=@List.drop_succ_cons
abbrev agd:=@List.mapM_cons
abbrev age:=@List.mem_filter
abbrev agi:=@List.nil_sublist
abbrev agm:=@List.drop_zero
abbrev abu:=@Bool.false_eq_true
abbrev aew:=@Bool.and_eq_true
abbrev aeY:=@Bool.not_true
abbrev afj:=@Bool.not_eq_true'
abbrev afm:=@Bool.or_eq_true
abbrev afy:=@Bool.eq_iff_iff
abbrev agj:=@Bool.true_and
abbrev agq:=@Bool.and_self
abbrev acn:=@Prod.mk.injEq
abbrev aeq:=@Nat.le_refl
abbrev aey:=@Nat.eq_of_beq_eq_true
abbrev aeG:=@Nat.le_of_ble_eq_true
abbrev aeL:=@Nat.zero_add
abbrev aeV:=@Nat.mul_le_mul_right
abbrev ae2:=@Nat.lt_of_lt_of_le
abbrev aff:=@Nat.ble_eq_true_of_le
abbrev afg:=@Nat.lt_or_ge
abbrev afs:=@Nat.blt_eq
abbrev afM:=@Nat.beq_refl
abbrev afU:=@Nat.add_assoc
abbrev af0:=@Nat.mul_one
abbrev af2:=@Nat.le_trans
abbrev af6:=@Nat.eq_zero_or_pos
abbrev af7:=@Nat.min_eq_left
abbrev agh:=@Nat.add_mul
abbrev agl:=@Nat.add_zero
abbrev ago:=@Nat.sub_zero
abbrev aev:=@Int.ofNat_eq_natCast
abbrev aeA:=@Int.toNat_natCast
abbrev aeH:=@Array.getElem?_setIfInBounds
abbrev ae3:=@Array.getElem?_eq_none
abbrev ae6:=@Array.getD_eq_getD_getElem?
abbrev afe:=@Array.length_toList
abbrev afi:=@Array.getElem?_toList
abbrev afT:=@Array.getElem?_push
abbrev agf:=@Array.ext_getElem?
abbrev aeW:=@Classical.byContradiction
abbrev afP:=@Classical.not_not
abbrev ae1:=@List.cons.injEq
abbrev agn:=@List.Perm.refl
abbrev afG:=@List.Sublist.refl
end Go.ak
namespace Go.ak
theorem ab{p:Prop}(h:p:=by omega):p:=h
theorem bK{p:Prop}(h:p:=by decide):p:=h
theorem aC{p:Prop}(h:p:=by simp):p:=h
theorem ap.{u}{c:Prop}{h:Decidable c}(k:¬c){e:Sort u}{t a:e}:ite c t a=a:=if_neg k
theorem aH.{u}{c:Prop}{h:Decidable c}(k:c){e:Sort u}{t a:e}:ite c t a=t:=if_pos k
theorem bc.{u}{e:Sort u}{h:Decidable True}(t a:e):ite True t a=t:=if_true t a
theorem bA.{u}{e:Sort u}{h:Decidable False}(t a:e):ite False t a=a:=if_false t a
inductive af where
 |xH|xO(p:af)|xI(p:af)
 deriving DecidableEq
def af.succ:af->af
 |.xH=>.xO .xH
 |.xO p=>.xI p
 |.xI p=>.xO p.succ
def af.cq:Nat->af
 |0=>.xH
 |t+1=>(af.cq t).succ
inductive am(α:Type)where
 |aF
 |node(l:am α)(v:α)(r:am α)
namespace am
variable{e:Type}
def left:am e->am e
 |.aF=>.aF
 |.node l _ _=>l
def right:am e->am e
 |.aF=>.aF
 |.node _ _ r=>r
def val(d:e):am e->e
 |.aF=>d
 |.node _ v _=>v
def get(d:e):af->am e->e
 |.xH,t=>t.val d
 |.xO p,t=>get d p t.left
 |.xI p,t=>get d p t.right
def set(d:e):af->e->am e->am e
 |.xH,x,t=>.node t.left x t.right
 |.xO p,x,t=>.node (set d p x t.left) (t.val d) t.right
 |.xI p,x,t=>.node t.left (t.val d) (set d p x t.right)
def bN(d:e):am e->Nat->e
 |.aF,_=>d
 |.node _ v _,0=>v
 |.node l _ r,m+1=>if m % 2=0 then bN d l (m/2)else bN d r (m/2)
def kN(d:e):(fuel:Nat)->Nat->e->am e->am e
 |_,0,x,t=>.node t.left x t.right
 |0,_+1,_,t=>t
 |f+1,m+1,x,t=>
  if m % 2=0 then .node (kN d f (m/2) x t.left) (t.val d) t.right
  else .node t.left (t.val d) (kN d f (m/2) x t.right)
end am
inductive AV where
 |tuple(l:List AV)
 |agg(l:List AV)
 |bool(b:Bool)
 |int(k:Nat)(n:Int)
 |str(s:List Nat)
 |aD(id:af)(off:Nat)
 |j5
 |slice(id:af)(off len cap:Nat)(exact:Bool)
 |aG
 |map(id:af)
 |d9
 |func(f:Nat)(first captured:List AV)
 |yield(id:af)
 |nilFunc
 |iface(t:Nat)(v:AV)
 |nilIface
 |ct
 deriving Inhabited
abbrev AV.agx:AV:=.tuple []
def AV.cells:AV->List AV
 |.agg l=>l
 |v=>[v]
def AV.db:AV->Bool
 |.agg _|.tuple _|.ct=>false
 |_=>true
def AV.bq:AV->Bool
 |.ct=>false
 |_=>true
def kc:IntKind->Nat
 |.i8=>0|.i16=>1|.i32=>2|.i64=>3|.u8=>4|.u16=>5|.u32=>6|.u64=>7
def ck:Nat->IntKind
 |0=>.i8|1=>.i16|2=>.i32|3=>.i64|4=>.u8|5=>.u16|6=>.u32|_=>.u64
inductive aK where
 |t(p:af)
 |c(v:AV)
inductive cY where
 |bool|int|str|aD|slice|map|func
 |iface(const empty:Bool)
 |dw(l:List (Nat×Nat×Bool×cY))
inductive bC where
 |bw(x:aK)
 |pick(c a b:aK)
 |box(elem:Nat)(x:aK)
 |alloc(elem:Nat)(zs:List AV)
 |build(zs:List AV)(dw:List (Nat×Nat×aK))
 |buildSlice(elem len:Nat)(zs:List AV)(dw:List (Nat×Nat×aK))
 |bk(a:aK)
 |fL(n:Nat)(a:aK)
 |store(n:Nat)(a x:aK)
 |nilCheck(x:aK)
 |arith(op:BinOp)(k:Nat)(x y:aK)
 |shift(op:BinOp)(x y:aK)
 |km(op:BinOp)(x y:aK)
 |eq(neg:Bool)(d:cY)(x y:aK)
 |unary(op:UnOp)(x:aK)
 |jM(k:Nat)(x:aK)
 |sy(elem:Nat)(x:aK)
 |nf(x:aK)
 |wT(x:aK)
 |sA(t:Nat)(x:aK)
 |mu(f:Nat)(first captured:List aK)
 |je
 |ng(elem bytes size:Nat)(zs:List AV)(len cap:aK)
 |uo(n size:Nat)(x:aK)(lo hi mx:Option aK)
 |gp(elem size:Nat)(x:aK)(lo hi mx:Option aK)
 |sB(x:aK)(lo hi:Option aK)
 |jx(off:Nat)(x:aK)
 |part(agg:Bool)(off size:Nat)(x:aK)
 |sC(n size:Nat)(x i:aK)
 |dO(size:Nat)(x i:aK)
 |wU(agg:Bool)(n size:Nat)(x i:aK)
 |mw(x i:aK)
 |lookup(key:cY)(zero:AV)(ok:Bool)(m k:aK)
 |iV(key:cY)(m k v:aK)
 |mapEntry(key:cY)(zero:AV)(m k:aK)
 |entryStore(m s v:aK)
 |oK(x:aK)
 |qQ(it:aK)
 |ln(x:aK)
 |jy(it:aK)
 |pJ(it:aK)
 |lq
 |typeAssert(t:Nat)(zero:AV)(ok:Bool)(x:aK)
 |extract(x:aK)(i:Nat)
 |uq(n:Nat)
 |nj(x:aK)
 |kn(x:aK)
 |sD(x:aK)
 |cap(x:aK)
 |append(elem bytes size:Nat)(zs:List AV)(ofMake:Bool)(s x:aK)
 |copy(size:Nat)(d s:aK)
 |ur(zs:List AV)(x:aK)
 |ut(x:aK)
 |delete(key:cY)(m k:aK)
 |nk(isMax:Bool)(l:List aK)
 |fill(m:aK)(ks:List (AV×aK))
 |call(f:aK)(args:List aK)
structure fU where
 dst:af
 op:bC
 guard:Option (af×Bool)
structure bu where
 dst:Option af
 op:bC
 guard:Option (af×Bool)
 gu:List af
 re:List fU
inductive bg where
 |skip
 |region(l:List bu)
 |seq(a b:bg)
 |cond(c:aK)(a b:bg)
 |block(id:Nat)(b:bg)
 |loop(b:bg)
 |rangeFunc(f:aK)(params:List af)(assign body:bg)
 |exit(id:Nat)
 |ret
 |eF(t:Nat)
inductive bU where
 |none
 |exit(id:Nat)
 |ret
inductive oM where
 |ready|busy|done|exhausted
structure aV where
 key:AV
 val:AV
 born:Nat
inductive bO where
 |none
 |cells(c:am AV)(n:Nat)(elem:Nat)(rw:Bool)(aM:List af)(fz:Nat)
 |map(es:List aV)(clock:Nat)
 |dt(es:List aV)
 |jN(s:List Nat)(rest:List Nat)(pos:Nat)
 |loop(st:oM)(bP:bU)(fn:Nat)(aa:am AV)(params:List af)(assign body:bg)(defers:af)
 |deferred(taken:Bool)
 |mapIter(m:Option af)(since:Nat)(seen:List Nat)(last:Nat)
 deriving Inhabited
structure ai where
 t:am bO
 next:af
def ai.get(H:ai)(i:af):bO:=H.t.get .none i
def ai.set(H:ai)(i:af)(o:bO):ai:=⟨H.t.set .none i o,H.next⟩
def ai.new(H:ai)(o:bO):ai:=⟨H.t.set .none H.next o,H.next.succ⟩
def ai.dP(H:ai):List af->ai
 |[]=>H
 |i::l=>(H.set i .none).dP l
inductive fM where
 |tmp(p:af)
 |cell(p:af)(agg:Bool)(n:Nat)
inductive aX where
 |none
 |code(nt:Nat)(results:List fM)(body:bg)
 |fV(f:List AV->ai->Option (AV×ai))
 |eF(f:am AV->ai->Option (am AV×ai))
end Go.ak
namespace Go.ak
section
variable{e:Type}(b:e)(ask:Nat->(Nat->e)->e)
def gv(aa:am AV)(x:aK):AV:=
 match x with
 |.t p=>aa.get .agx p
 |.c v=>v
def eX(c:am AV)(n off:Nat):Nat->Option (List AV)
 |0=>some []
 |m+1=>if off<n then(match eX c n (off+1) m with|some l=>some (c.bN .agx off::l)|none=>none)else none
def fi(c:am AV)(off:Nat):List AV->am AV
 |[]=>c
 |v::l=>fi (c.kN .agx off off v) (off+1) l
def bX(l:List AV):am AV:=fi .aF 0 l
def du(H:ai)(id:af)(off m:Nat):Option (List AV):=
 match H.get id with
 |.cells c n _ _ _ _=>eX c n off m
 |_=>none
def cE:List AV->Bool
 |[]=>true
 |v::l=>v.db&&cE l
def gw(H:ai)(id:af)(off:Nat)(l:List AV):Option ai:=
 match H.get id with
 |.cells c n a true aM fz=>
  if decide (fz<=off)&&decide (off+l.length<=n)&&cE l then some ((H.dP aM).set id (.cells (fi c off l) n a true [] fz))else none
 |_=>none
def ie:List Nat->List Nat->Bool
 |[],[]=>true
 |a::l,c::m=>aeF a c&&ie l m
 |_,_=>false
def nq:List Nat->List Nat->Bool
 |_,[]=>false
 |[],_::_=>true
 |a::l,c::m=>ae0 a c||(aeF a c&&nq l m)
def af.beq:af->af->Bool
 |.xH,.xH=>true
 |.xO p,.xO q=>af.beq p q
 |.xI p,.xI q=>af.beq p q
 |_,_=>false
def gU:Int->Int->Bool
 |.ofNat a,.ofNat c=>aeF a c
 |.negSucc a,.negSucc c=>aeF a c
 |_,_=>false
def jz:Int->Int->Bool
 |.ofNat a,.ofNat c=>ae0 a c
 |.negSucc a,.negSucc c=>ae0 c a
 |.negSucc _,.ofNat _=>true
 |.ofNat _,.negSucc _=>false
def nu(agg:Bool)(l:List AV)(off size:Nat):Option AV:=
 if agg then some (.agg ((l.drop off).take size))else(l.drop off).head?
def cQ:(fuel:Nat)->cY->AV->AV->Option Bool
 |_,.bool,.bool a,.bool m=>some (a==m)
 |_,.int,.int k a,.int l m=>if k=l then some (gU a m)else none
 |_,.str,.str a,.str m=>some (ie a m)
 |_,.aD,.j5,.j5=>some true
 |_,.aD,.j5,.aD _ _=>some false
 |_,.aD,.aD _ _,.j5=>some false
 |_,.aD,.aD a i,.aD m j=>if af.beq a m then some (aeF i j)else none
 |_,.slice,.aG,.aG=>some true
 |_,.slice,.aG,.slice .. =>some false
 |_,.slice,.slice ..,.aG=>some false
 |_,.map,.d9,.d9=>some true
 |_,.map,.d9,.map _=>some false
 |_,.map,.map _,.d9=>some false
 |_,.func,.nilFunc,.nilFunc=>some true
 |_,.func,.nilFunc,.func .. =>some false
 |_,.func,.func ..,.nilFunc=>some false
 |_,.func,.nilFunc,.yield _=>some false
 |_,.func,.yield _,.nilFunc=>some false
 |_,.iface const empty,.nilIface,.nilIface=>if const||empty then some true else none
 |_,.iface _ _,.nilIface,.iface _ _=>some false
 |_,.iface _ _,.iface _ _,.nilIface=>some false
 |_,.iface _ _,.iface t _,.iface u _=>if aeF t u then none else some false
 |f+1,.dw h,.agg c,.agg g=>go f c g h
 |_,_,_,_=>none
where
 go:(fuel:Nat)->List AV->List AV->List (Nat×Nat×Bool×cY)->Option Bool
  |_,_,_,[]=>some true
  |0,_,_,_::_=>none
  |f+1,c,g,(off,size,agg,d)::h=>
   match nu agg c off size,nu agg g off size with
   |some x,some y=>
    match cQ f d x y with
    |some true=>go f c g h
    |some false=>some false
    |none=>none
   |_,_=>none
def ko(k:Nat)(n:Int):Int:=(ck k).wrap n
def fA(k:Nat)(n:Int):Int:=
 match k,n with
 |3,.ofNat m=>if ae0 m 9223372036854775808 then .ofNat m else ko 3 (.ofNat m)
 |3,.negSucc m=>if ae0 m 9223372036854775808 then .negSucc m else ko 3 (.negSucc m)
 |4,.ofNat m=>if ae0 m 256 then .ofNat m else ko 4 (.ofNat m)
 |k,n=>ko k n
def eT(op:BinOp)(k:Nat)(a c:Int):Option AV:=
 match op with
 |.add=>some (.int k (fA k (a+c)))
 |.sub=>some (.int k (fA k (a - c)))
 |.mul=>some (.int k (fA k (a*c)))
 |.quo=>if c=0 then none else some (.int k (fA k (a.tdiv c)))
 |.rem=>if c=0 then none else some (.int k (a.tmod c))
 |.and=>some (.int k (ko k (afr (ck k).bits a&&&afr (ck k).bits c).toNat))
 |.or=>some (.int k (ko k (afr (ck k).bits a|||afr (ck k).bits c).toNat))
 |.xor=>some (.int k (ko k (afr (ck k).bits a^^^afr (ck k).bits c).toNat))
 |.andNot=>some (.int k (ko k (afr (ck k).bits a&&& ~~~afr (ck k).bits c).toNat))
 |.eql=>some (.bool (gU a c))
 |.neq=>some (.bool (!gU a c))
 |.lss=>some (.bool (jz a c))
 |.leq=>some (.bool (!jz c a))
 |.gtr=>some (.bool (jz c a))
 |.geq=>some (.bool (!jz a c))
 |_=>none
def uu(op:BinOp)(k:Nat)(x y:AV):Option AV:=
 match x,y with
 |.int j a,.int l c=>if aeF j k&&aeF l k then eT op k a c else none
 |_,_=>none
def zm(op:BinOp)(x y:AV):Option AV:=
 match x,y with
 |.int k a,.int _ (.ofNat c)=>
  let n:=min c (ck k).bits
  match op with
  |.shl=>some (.int k (fA k (a*2^n)))
  |.shr=>some (.int k (a.fdiv (2^n)))
  |_=>none
 |_,_=>none
def uw(op:BinOp)(x y:AV):Option AV:=
 match x,y with
 |.str a,.str c=>
  match op with
  |.add=>if a.length+c.length<4294967296 then some (.str (a++c))else none
  |.eql=>some (.bool (ie a c))
  |.neq=>some (.bool (!ie a c))
  |.lss=>some (.bool (nq a c))
  |.leq=>some (.bool (!nq c a))
  |.gtr=>some (.bool (nq c a))
  |.geq=>some (.bool (!nq a c))
  |_=>none
 |_,_=>none
def ux(op:UnOp)(x:AV):Option AV:=
 match op,x with
 |.neg,.int k n=>some (.int k (fA k (0 - n)))
 |.xor,.int k n=>eT .xor k (if(ck k).signed then -1 else(ck k).max) n
 |.not,.bool a=>some (.bool !a)
 |_,_=>none
def ny(l:List AV):(off:Nat)->List AV->Option (List AV)
 |0,[]=>some l
 |0,v::a=>match l with
  |[]=>none
  |_::l=>match ny l 0 a with|some c=>some (v::c)|none=>none
 |off+1,a=>match l with
  |[]=>none
  |x::l=>match ny l off a with|some c=>some (x::c)|none=>none
def kp(aa:am AV)(l:List AV):List (Nat×Nat×aK)->Option (List AV)
 |[]=>some l
 |(off,size,x)::a=>
  let c:=(gv aa x).cells
  if(gv aa x).bq&&decide (c.length=size)then(match ny l off c with|some d=>kp aa d a|none=>none)else none
def ep(a:List AV):Nat->List AV
 |0=>[]
 |n+1=>a++ep a n
def lS(x:AV)(y:Nat):Option Nat:=
 match x with
 |.int _ (.ofNat i)=>if afx i y then some i else none
 |_=>none
def gM(aa:am AV)(x:Option aK)(d y:Nat):Option Nat:=
 match x with
 |some x=>lS (gv aa x) y
 |none=>some d
def findKey(d:cY)(k:AV):List aV->Nat->Option (Option (Nat×AV))
 |[],_=>some none
 |a::es,i=>
  match cQ 64 d k a.key with
  |some true=>some (some (i,a.val))
  |some false=>findKey d k es (i+1)
  |none=>none
def lr:cY->Bool
 |.int|.str|.bool=>true
 |_=>false
def dK(d:cY)(k:AV)(es:List aV):Option (Option AV):=if lr d then go es else none
where
 go:List aV->Option (Option AV)
  |[]=>some none
  |a::es=>match cQ 64 d k a.key,go es with
   |some true,some none=>some (some a.val)
   |some false,some r=>some r
   |_,_=>none
def jA(d:cY)(k:AV)(a:aV):Bool:=
 match cQ 64 d k a.key with
 |some c=>c
 |none=>false
def jB(d:cY)(k v:AV):List aV->List aV
 |[]=>[]
 |a::es=>(if jA d k a then{a with key:=k,val:=v}else a)::jB d k v es
def j6(d:cY)(k:AV):List aV->List aV
 |[]=>[]
 |a::es=>if jA d k a then j6 d k es else a::j6 d k es
def ig(v:AV)(k:AV):List aV->Nat->List aV
 |[],_=>[]
 |a::es,0=>{a with key:=k,val:=v}::es
 |a::es,i+1=>a::ig v k es i
def my:List aV->Nat->List aV
 |[],_=>[]
 |_::es,0=>es
 |a::es,i+1=>a::my es i
def qR:List aV->Nat->Nat
 |[],_=>0
 |a::_,0=>a.born
 |_::es,i+1=>qR es i
def lT(a:Nat):List aV->Nat->Option Nat
 |[],_=>none
 |c::es,i=>if aeF c.born a then some i else lT a es (i+1)
def fB(H:ai)(size:Nat)(x:AV):Option (Nat×List AV):=
 match x with
 |.aG=>some (0,[])
 |.slice id off len _ _=>match du H id off (len*size)with|some l=>some (len,l)|none=>none
 |.str s=>if aeF size 1 then some (s.length,s.map λn=>.int 4 (.ofNat n))else none
 |_=>none
def dG(n:Nat):Bool:=afx n 70368744177664
def iK(d bytes size:Nat)(H:ai)(s:AV)(n:Nat)(l:List AV):Option (AV×ai):=
 if !cE l then none else
 match s with
 |.aG=>
  if aeF n 0 then some (.aG,H)
  else if dG (n*bytes)&&dG n then some (.slice H.next 0 n n false,H.new (.cells (bX l) (n*size) d true [] 0))else none
 |.slice id off len cap exact=>
  let a:=len+n
  if afx a cap then
   if aeF n 0 then some (.slice id off a cap exact,H)else
   match gw H id (off+len*size) l with
   |some f=>some (.slice id off a cap exact,f)
   |none=>none
  else if !(dG (a*bytes)&&dG a)then none else
   match H.get id with
   |.cells c m g rw aM fz=>
    match eX c m off (len*size)with
    |none=>none
    |some cM=>
     if exact then some (.slice H.next 0 a a false,H.new (.cells (bX (cM++l)) (a*size) d true [] 0))
     else if rw&&aeF len cap&&aeF (off+cap*size) m&&aeF g d&&afx fz m then
      some (.slice H.next 0 a a false,(H.set id (.cells c m g false aM fz)).new (.cells (bX (cM++l)) (a*size) d true (id::aM) (fz - off)))
     else none
   |_=>none
 |_=>none
def gz(H:ai)(a:AV)(n:Nat)(agg:Bool):Option AV:=
 match a with
 |.aD id off=>
  match du H id off n with
  |some l=>if agg then some (.agg l)else l.head?
  |none=>none
 |_=>none
def uy(c:Bool):AV->List AV->Option AV
 |x,[]=>some x
 |.int k a,.int l f::d=>if aeF k l then uy c (.int k (if c then(if jz a f then f else a)else(if jz f a then f else a))) d else none
 |_,_=>none
def BR:AV->Option Nat
 |.int 4 (.ofNat n)=>if ae0 n 256 then some n else none
 |_=>none
def sE:List AV->Option (List Nat)
 |[]=>some []
 |v::l=>match BR v,sE l with
  |some n,some r=>some (n::r)
  |_,_=>none
def sF:List Nat->Nat->Option Nat
 |[],_=>none
 |a::_,0=>some a
 |_::l,i+1=>sF l i
def kO:List AV->Nat->Option AV
 |[],_=>none
 |a::_,0=>some a
 |_::l,i+1=>kO l i
def mz:(fuel:Nat)->cY->AV->Bool
 |_,.bool,.bool _=>true
 |_,.int,.int _ _=>true
 |_,.str,.str _=>true
 |_,.aD,.aD _ _=>true
 |_,.aD,.j5=>true
 |f+1,.dw c,.agg a=>go f a c
 |_,_,_=>false
where
 go:(fuel:Nat)->List AV->List (Nat×Nat×Bool×cY)->Bool
  |_,_,[]=>true
  |0,_,_::_=>false
  |f+1,a,(off,size,agg,d)::c=>match nu agg a off size with
   |some x=>mz f d x&&go f a c
   |none=>false
def gB(d:cY)(k:AV):Bool:=
 match d with
 |.dw _=>mz 64 d k
 |.iface _ _=>false
 |_=>true
def BS:AV->AV->Bool
 |.bool a,.bool c=>a==c
 |.int j a,.int k c=>aeF j k&&gU a c
 |.str a,.str c=>ie a c
 |_,_=>false
def uz:List AV->List AV->Bool
 |[],[]=>true
 |a::l,c::m=>BS a c&&uz l m
 |_,_=>false
def qS(d:cY)(k:AV):List aV->Nat->Bool
 |[],_=>false
 |a::_,0=>match d,k,a.key with
  |.dw _,.agg l,.agg m=>uz l m
  |.dw _,_,_=>false
  |_,_,_=>true
 |_::es,i+1=>qS d k es i
def oN(H:ai)(id:af)(a:Nat):Bool:=
 match H.get id with
 |.cells _ _ c _ _ _=>aeF c a
 |_=>false
def u8(s:List Nat)(a:Nat):Nat×Nat:=Utf8.decode ⟨(s.map agp).toArray⟩ a
def aE(o:bC)(aa:am AV)(H:ai):Option (AV×ai):=
 let pure(v:AV):Option (AV×ai):=some (v,H)
 let r(v:Option AV):Option (AV×ai):=v.map λv=>(v,H)
 match o with
 |.bw x=>pure (gv aa x)
 |.pick c a I=>match gv aa c with
  |.bool t=>pure (if t then gv aa a else gv aa I)
  |_=>none
 |.box q x=>
  let l:=(gv aa x).cells
  if cE l then some (.aD H.next 0,H.new (.cells (bX l) l.length q true [] 0))else none
 |.alloc q A=>some (.aD H.next 0,H.new (.cells (bX A) A.length q true [] 0))
 |.build A dw=>r ((kp aa A dw).map .agg)
 |.buildSlice q len A dw=>
  match kp aa (ep A len) dw with
  |some l=>if cE l then some (.slice H.next 0 len len true,H.new (.cells (bX l) l.length q true [] 0))else none
  |none=>none
 |.bk a=>r (gz H (gv aa a) 1 false)
 |.fL n a=>r (gz H (gv aa a) n true)
 |.store n a x=>
  match gv aa a with
  |.aD id off=>
   let l:=(gv aa x).cells
   if l.length=n then(match gw H id off l with|some E=>some (.agx,E)|none=>none)else none
  |_=>none
 |.nilCheck x=>match gv aa x with
  |.aD id off=>pure (.aD id off)
  |.func f a I=>pure (.func f a I)
  |.yield l=>pure (.yield l)
  |.iface t v=>pure (.iface t v)
  |.map m=>pure (.map m)
  |.slice a I c d J=>pure (.slice a I c d J)
  |_=>none
 |.arith op k x y=>r (uu op k (gv aa x) (gv aa y))
 |.shift op x y=>r (zm op (gv aa x) (gv aa y))
 |.km op x y=>r (uw op (gv aa x) (gv aa y))
 |.eq neg d x y=>r ((cQ 64 d (gv aa x) (gv aa y)).map λI=>.bool (I !=neg))
 |.unary op x=>r (ux op (gv aa x))
 |.jM k x=>match gv aa x with
  |.int _ n=>pure (.int k (fA k n))
  |_=>none
 |.sy q x=>match gv aa x with
  |.str s=>some (.slice H.next 0 s.length s.length false,H.new (.cells (bX (s.map λn=>.int 4 (.ofNat n))) s.length q true [] 0))
  |_=>none
 |.wT x=>match gv aa x with
  |.str s=>pure (.str s)
  |_=>none
 |.nf x=>match gv aa x with
  |.aG=>pure (.str [])
  |.slice id off len _ _=>match du H id off len with
   |some l=>(sE l).map λs=>(.str s,H)
   |none=>none
  |_=>none
 |.sA t x=>pure (.iface t (gv aa x))
 |.mu f a I=>pure (.func f (a.map (gv aa)) (I.map (gv aa)))
 |.je=>some (.map H.next,H.new (.map [] 0))
 |.ng q bytes size A len cap=>
  match gv aa len,gv aa cap with
  |.int 3 (.ofNat l),.int 3 (.ofNat c)=>
   if afx l c&&dG (c*bytes)&&dG c then some (.slice H.next 0 l c true,H.new (.cells (bX (ep A c)) (c*size) q true [] 0))else none
  |_,_=>none
 |.uo n size x lo hi D=>
  match gv aa x with
  |.aD id off=>do
   let m<-gM aa D n n
   let h<-gM aa hi n m
   let l<-gM aa lo 0 h
   some (.slice id (if m=l then off else off+l*size) (h - l) (m - l) true,H)
  |_=>none
 |.gp q size x lo hi D=>
  match gv aa x with
  |.aG=>do
   let m<-gM aa D 0 0
   let h<-gM aa hi 0 m
   let _<-gM aa lo 0 h
   some (.aG,H)
  |.slice id off len cap exact=>do
   let m<-gM aa D cap cap
   let h<-gM aa hi len m
   let l<-gM aa lo 0 h
   if exact||D.isSome||lo.isNone||oN H id q then
    some (.slice id (if exact&&m=l then off else off+l*size) (h - l) (m - l) (exact||D.isSome),H)
   else none
  |_=>none
 |.sB x lo hi=>
  match gv aa x with
  |.str s=>do
   let n:=s.length
   let h<-gM aa hi n n
   let l<-gM aa lo 0 h
   some (.str ((s.drop l).take (h - l)),H)
  |_=>none
 |.jx off x=>match gv aa x with
  |.aD id o=>pure (.aD id (o+off))
  |_=>none
 |.part agg off size x=>match gv aa x with
  |.agg l=>r (nu agg l off size)
  |_=>none
 |.sC n size x i=>match gv aa x,gv aa i with
  |.aD id o,.int _ (.ofNat j)=>if ae0 j n then pure (.aD id (o+j*size))else none
  |_,_=>none
 |.dO size x i=>match gv aa x,gv aa i with
  |.slice id o len _ _,.int _ (.ofNat j)=>if ae0 j len then pure (.aD id (o+j*size))else none
  |_,_=>none
 |.wU agg n size x i=>match gv aa x,gv aa i with
  |.agg l,.int _ (.ofNat j)=>if ae0 j n then r (nu agg l (j*size) size)else none
  |_,_=>none
 |.mw x i=>match gv aa x,gv aa i with
  |.str s,.int _ (.ofNat j)=>r ((sF s j).map λn=>.int 4 (.ofNat n))
  |_,_=>none
 |.lookup key zero ok m k=>
  if !gB key (gv aa k)then none else
  let aA(v:AV)(I:Bool):Option (AV×ai):=pure (if ok then .tuple [v,.bool I]else v)
  match gv aa m with
  |.d9=>aA zero false
  |.map id=>match H.get id with
   |.map es _=>match findKey key (gv aa k) es 0 with
    |some (some (_,v))=>aA v true
    |some none=>aA zero false
    |none=>none
   |.dt es=>match dK key (gv aa k) es with
    |some (some v)=>aA v true
    |some none=>aA zero false
    |none=>none
   |_=>none
  |_=>none
 |.iV key m k v=>
  if !gB key (gv aa k)then none else
  match gv aa m with
  |.map id=>match H.get id with
   |.map es g=>match findKey key (gv aa k) es 0 with
    |some (some (i,_))=>if qS key (gv aa k) es i then some (.agx,H.set id (.map (ig (gv aa v) (gv aa k) es i) g))else none
    |some none=>some (.agx,H.set id (.map (es++[⟨gv aa k,gv aa v,g⟩]) (g+1)))
    |none=>none
   |.dt es=>match dK key (gv aa k) es with
    |some (some _)=>some (.agx,H.set id (.dt (jB key (gv aa k) (gv aa v) es)))
    |some none=>some (.agx,H.set id (.dt (es++[⟨gv aa k,gv aa v,0⟩])))
    |none=>none
   |_=>none
  |_=>none
 |.mapEntry key zero m k=>
  if !gB key (gv aa k)then none else
  match gv aa m with
  |.map id=>match H.get id with
   |.map es g=>match findKey key (gv aa k) es 0 with
    |some (some (i,v))=>if qS key (gv aa k) es i then some (.tuple [v,.int 3 (.ofNat (qR es i))],H.set id (.map (ig v (gv aa k) es i) g))else none
    |some none=>some (.tuple [zero,.int 3 (.ofNat g)],H.set id (.map (es++[⟨gv aa k,zero,g⟩]) (g+1)))
    |none=>none
   |_=>none
  |_=>none
 |.entryStore m s v=>
  match gv aa m,gv aa s with
  |.map id,.int _ (.ofNat I)=>match H.get id with
   |.map es g=>match lT I es 0 with
    |some i=>some (.agx,H.set id (.map (es.modify i λJ=>{J with val:=gv aa v}) g))
    |none=>none
   |_=>none
  |_,_=>none
 |.oK x=>match gv aa x with
  |.str s=>some (.aD H.next 0,H.new (.jN s s 0))
  |_=>none
 |.qQ G=>match gv aa G with
  |.aD id 0=>match H.get id with
   |.jN s z w=>match z with
    |[]=>pure (.tuple [.bool false])
    |c::z=>if ae0 c 128 then some (.tuple [.bool true,.int 3 (.ofNat w),.int 2 (.ofNat c)],H.set id (.jN s z (w+1)))else some (.tuple [.bool true,.int 3 (.ofNat w),.int 2 (.ofNat (u8 s w).1)],H.set id (.jN s (s.drop (w+(u8 s w).2)) (w+(u8 s w).2)))
   |_=>none
  |_=>none
 |.ln x=>match gv aa x with
  |.d9=>some (.aD H.next 0,H.new (.mapIter none 0 [] 0))
  |.map m=>match H.get m with
   |.map _ g=>some (.aD H.next 0,H.new (.mapIter (some m) g [] g))
   |_=>none
  |_=>none
 |.jy _|.lq=>none
 |.pJ G=>match gv aa G with
  |.aD id 0=>match H.get id with
   |.mapIter (some m) _ seen F=>match seen.getLast?,H.get m with
    |some I,.map es g=>if aeF g F then(match lT I es 0 with
     |some i=>match es[i]? with
      |some J=>pure (.tuple [J.key,J.val])
      |none=>none
     |none=>none)else none
    |_,_=>none
   |_=>none
  |_=>none
 |.typeAssert t zero ok x=>match gv aa x with
  |.nilIface=>if ok then pure (.tuple [zero,.bool false])else none
  |.iface u v=>if aeF u t then pure (if ok then .tuple [v,.bool true]else v)else if ok then pure (.tuple [zero,.bool false])else none
  |_=>none
 |.extract x i=>match gv aa x with
  |.tuple l=>r (kO l i)
  |_=>none
 |.uq n=>pure (.int 3 (.ofNat n))
 |.nj x=>match gv aa x with
  |.str s=>pure (.int 3 (.ofNat s.length))
  |_=>none
 |.kn x=>match gv aa x with
  |.slice _ _ n _ _=>pure (.int 3 (.ofNat n))
  |.aG=>pure (.int 3 (.ofNat 0))
  |_=>none
 |.sD x=>match gv aa x with
  |.d9=>pure (.int 3 (.ofNat 0))
  |.map id=>match H.get id with
   |.map es _=>pure (.int 3 (.ofNat es.length))
   |.dt es=>pure (.int 3 (.ofNat es.length))
   |_=>none
  |_=>none
 |.cap x=>match gv aa x with
  |.slice _ _ _ n true=>pure (.int 3 (.ofNat n))
  |.aG=>pure (.int 3 (.ofNat 0))
  |_=>none
 |.append q bytes size A B s x=>
  if B then
   match gv aa x with
   |.int 3 (.ofNat n)=>if dG (n*bytes)&&dG n then iK q bytes size H (gv aa s) n (ep A n)else none
   |_=>none
  else
   match fB H size (gv aa x)with
   |some (n,l)=>iK q bytes size H (gv aa s) n l
   |none=>none
 |.copy size d s=>
  match gv aa d,fB H size (gv aa s)with
  |.aG,some _=>pure (.int 3 (.ofNat 0))
  |.slice id off len _ _,some (n,l)=>
   let m:=min n len
   if m=0 then pure (.int 3 (.ofNat 0))else
   match gw H id off (l.take (m*size))with
   |some E=>some (.int 3 (.ofNat m),E)
   |none=>none
  |_,_=>none
 |.ur A x=>match gv aa x with
  |.aG=>pure .agx
  |.slice id off n _ _=>if n=0 then pure .agx else match gw H id off (ep A n)with
   |some E=>some (.agx,E)
   |none=>none
  |_=>none
 |.ut x=>match gv aa x with
  |.d9=>pure .agx
  |.map id=>match H.get id with
   |.map _ g=>some (.agx,H.set id (.map [] g))
   |_=>none
  |_=>none
 |.delete key m k=>
  if !gB key (gv aa k)then none else
  match gv aa m with
  |.d9=>pure .agx
  |.map id=>match H.get id with
   |.map es g=>match findKey key (gv aa k) es 0 with
    |some (some (i,_))=>some (.agx,H.set id (.map (my es i) g))
    |some none=>some (.agx,H.set id (.map es g))
    |none=>none
   |.dt es=>match dK key (gv aa k) es with
    |some _=>some (.agx,H.set id (.dt (j6 key (gv aa k) es)))
    |none=>none
   |_=>none
  |_=>none
 |.nk C l=>match l.map (gv aa)with
  |x::z=>r (uy C x z)
  |[]=>none
 |.fill m ks=>match gv aa m with
  |.map id=>match H.get id with
   |.map [] 0=>some (.agx,H.set id (.dt (ks.map λp=>⟨p.1,gv aa p.2,0⟩)))
   |_=>none
  |_=>none
 |.call _ _=>none
def pK(H:ai)(g:AV):Option (List (Option aV)×(Option aV->AV×ai)):=
 match g with
 |.aD id 0=>match H.get id with
  |.mapIter none _ _ _=>some ([none],λ_=>(.tuple [.bool false],H))
  |.mapIter (some m) a seen f=>match H.get m with
   |.map es d=>
    if !seen.isEmpty&&!es.isEmpty&&es.all (λh=>afx f h.born)then none else
    let left:=es.filter λh=>!seen.contains h.born
    let cM:=left.filter λh=>ae0 h.born a
    let new:=left.filter λh=>!ae0 h.born a
    some ((if cM.isEmpty then[none]else[])++(cM++new).map some,λc=>match c with
     |some h=>(.tuple [.bool true,h.key,h.val],H.set id (.mapIter (some m) a (seen++[h.born]) d))
     |none=>(.tuple [.bool false],H))
   |_=>none
  |_=>none
 |_=>none
def de:AV->AV->Bool
 |.bool a,.bool c=>a==c
 |.int k a,.int l c=>aeF k l&&gU a c
 |.str a,.str c=>ie a c
 |.aD a i,.aD c j=>af.beq a c&&aeF i j
 |.j5,.j5=>true
 |.slice a i j k d,.slice c l m n f=>af.beq a c&&aeF i l&&aeF j m&&aeF k n&&(d==f)
 |.aG,.aG=>true
 |.map a,.map c=>af.beq a c
 |.d9,.d9=>true
 |.yield a,.yield c=>af.beq a c
 |.nilFunc,.nilFunc=>true
 |.nilIface,.nilIface=>true
 |_,_=>false
def jO:List AV->List AV->Bool
 |[],[]=>true
 |a::l,c::m=>de a c&&jO l m
 |_,_=>false
def fC:AV->AV->Bool
 |.agg l,.agg m=>jO l m
 |.tuple l,.tuple m=>jO l m
 |.func f a h,.func g c d=>aeF f g&&jO a c&&jO h d
 |a,h=>de a h
def fj:AV->Option af
 |.aD i _=>some i
 |.slice i _ _ _ _=>some i
 |.map i=>some i
 |_=>none
def cS(aa:am AV)(H:ai):List af->ai×List (af×bO)
 |[]=>(H,[])
 |p::l=>match fj (aa.get .agx p)with
  |some i=>let r:=cS aa (H.set i .none) l;(r.1,(i,H.get i)::r.2)
  |none=>cS aa H l
def cB(H:ai):List (af×bO)->ai
 |[]=>H
 |(i,o)::l=>(cB H l).set i o
def iL:List AV->af->am AV->am AV
 |[],_,t=>t
 |v::l,p,t=>iL l p.succ (t.set .agx p v)
def kq:List af->List AV->am AV->am AV
 |p::a,v::c,t=>kq a c (t.set .agx p v)
 |_,_,t=>t
def ee(aa:am AV)(H:ai):List fM->Option (List AV)
 |[]=>some []
 |.tmp p::l=>(ee aa H l).map (aa.get .agx p::·)
 |.cell p agg n::l=>match gz H (aa.get .agx p) n agg,ee aa H l with
  |some v,some r=>some (v::r)
  |_,_=>none
def fG:List AV->AV
 |[v]=>v
 |l=>.tuple l
structure Fr where
 aa:am AV
 bz:List af
 bB:Option af
def aO(aa:am AV)(d:Option af)(v:AV):am AV:=
 match d with
 |some p=>aa.set .agx p v
 |none=>aa
def dc(aa:am AV):Option (af×Bool)->Bool
 |none=>true
 |some (p,a)=>match aa.get .agx p with
  |.bool c=>c==a
  |_=>false
def iM(aa:am AV):Option (af×Bool)->Bool
 |none=>true
 |some (p,_)=>(aa.get .agx p).bq
def dl(aa:am AV)(H:ai):List fU->Bool
 |[]=>true
 |r::l=>
  (if dc aa r.guard then(match aE r.op aa H with
    |some (w,_)=>fC (aa.get .agx r.dst) w
    |none=>false)else true)&&dl aa H l
def gV(H:ai):List af->Option ai
 |[]=>some H
 |i::l=>match H.get i with
  |.deferred false=>gV (H.set i (.deferred true)) l
  |_=>none
variable(ac:Nat->aX)
mutual
def exec:(n:Nat)->bg->Fr->ai->(bU->Fr->ai->e)->e
 |0,_,_,_,_=>b
 |n+1,c,fr,H,K=>
  match c with
  |.skip=>K .none fr H
  |.region l=>aq n l fr H (K .none)
  |.seq a o=>exec n a fr H λj fr H=>match j with
   |.none=>exec n o fr H K
   |j=>K j fr H
  |.cond c a o=>match gv fr.aa c with
   |.bool true=>exec n a fr H K
   |.bool false=>exec n o fr H K
   |_=>b
  |.block id o=>exec n o fr H λj fr H=>match j with
   |.exit i=>if aeF i id then K .none fr H else K (.exit i) fr H
   |j=>K j fr H
  |.loop o=>exec n o fr H λj fr H=>match j with
   |.none=>exec n (.loop o) fr H K
   |j=>K j fr H
  |.exit id=>K (.exit id) fr H
  |.ret=>K .ret fr H
  |.eF t=>match ac t with
   |.eF g=>match g fr.aa H with
    |some (aa,H)=>K .none {fr with aa:=aa} H
    |none=>b
   |_=>b
  |.rangeFunc f params assign body=>
   let go(fr:Fr)(H:ai)(d:af):e:=
    dT n (gv fr.aa f) [.yield H.next] (H.new (.loop .ready .none 0 fr.aa params assign body d)) λ_ h=>
     match h.get H.next with
     |.loop st bP fn aa k as m d=>
      match st with
      |.busy=>b
      |_=>K bP fr (h.set H.next (.loop .exhausted bP fn aa k as m d))
     |_=>b
   match fr.bB with
   |none=>go {fr with bz:=H.next::fr.bz} (H.new (.deferred false)) H.next
   |some l=>match H.get l with
    |.loop _ _ _ _ _ _ _ d=>go fr H d
    |_=>b
def aq:(n:Nat)->List bu->Fr->ai->(Fr->ai->e)->e
 |0,_,_,_,_=>b
 |_+1,[],fr,H,K=>K fr H
 |n+1,o::l,fr,H,K=>
  if dc fr.aa o.guard then
   let h:=cS fr.aa H o.gu
   let after(v:AV)(H:ai):e:=
    let aa:=aO fr.aa o.dst v
    let H:=cB H h.2
    if dl aa H o.re then aq n l {fr with aa:=aa} H K else b
   match o.op with
   |.call f args=>dT n (gv fr.aa f) (args.map (gv fr.aa)) h.1 after
   |.jy d=>match pK h.1 (gv fr.aa d)with
    |some (cs,a)=>ask cs.length λi=>match cs[i]? with
     |some c=>after (a c).1 (a c).2
     |none=>b
    |none=>b
   |op=>match aE op fr.aa h.1 with
    |some (v,H)=>after v H
    |none=>b
  else if iM fr.aa o.guard then aq n l {fr with aa:=aO fr.aa o.dst .agx} H K else b
def dT:(n:Nat)->AV->List AV->ai->(AV->ai->e)->e
 |0,_,_,_,_=>b
 |n+1,f,args,H,K=>
  match f with
  |.func f first a=>
   match ac f with
   |.none|.eF _=>b
   |.fV g=>match g (first++args++a) H with
    |some (v,H)=>K v H
    |none=>b
   |.code i results body=>
    if afx (first++args++a).length i then
    exec n body ⟨iL (first++args++a) .xH .aF,[],none⟩ H λj fr H=>
     match j with
     |.exit _=>b
     |_=>match gV H fr.bz with
      |some H=>match ee fr.aa H results with
       |some l=>K (fG l) H
       |none=>b
      |none=>b
    else b
  |.yield l=>
   match H.get l with
   |.loop st bP fn aa c as h d=>
    match st with
    |.ready=>
     if args.length=c.length then
      exec n as ⟨kq c args aa,[],some l⟩ H λj fr H=>
       match j,H.get l with
       |.none,.loop .ready bP fn aa c as bd' d=>
        exec n h fr (H.set l (.loop .busy bP fn aa c as bd' d)) λj _ H=>
         match H.get l with
         |.loop _ _ fn aa c as h d=>
          match j with
          |.none=>K (.bool true) (H.set l (.loop .ready .none fn aa c as h d))
          |j=>K (.bool false) (H.set l (.loop .done j fn aa c as h d))
         |_=>b
       |_,_=>b
     else b
    |_=>b
   |_=>b
  |_=>b
end
end
abbrev T:=aK.t
abbrev C:=aK.c
abbrev I(k n:Nat):aK:=.c (.int k (.ofNat n))
abbrev J(k n:Nat):aK:=.c (.int k (.negSucc n))
abbrev O(d:af)(o:bC):bu:=⟨some d,o,none,[],[]⟩
abbrev N(o:bC):bu:=⟨none,o,none,[],[]⟩
abbrev R(d:af)(o:bC)(h:List af)(re:List fU):bu:=⟨some d,o,none,h,re⟩
abbrev M(o:bC)(h:List af)(re:List fU):bu:=⟨none,o,none,h,re⟩
abbrev G(d:af)(o:bC)(g:af)(b:Bool):bu:=⟨some d,o,some (g,b),[],[]⟩
abbrev G'(d:Option af)(o:bC)(g:af)(b:Bool)(h:List af)(re:List fU):bu:=⟨d,o,some (g,b),h,re⟩
abbrev i(k n:Nat):AV:=.int k (.ofNat n)
abbrev j(k n:Nat):AV:=.int k (.negSucc n)
end Go.ak
end
