/- A part. No conditions. -/
import GoSem.Step
set_option linter.all false
open Nat renaming beq->afw,blt->afR,ble->ago
open BitVec renaming ofInt->agj
open UInt8 renaming ofNat->ahh
noncomputable section
namespace Go.al
abbrev aaM:=@Option.some.injEq
abbrev aaU:=@Option.bind_eq_some_iff
abbrev acC:=@Option.bind_eq_bind
abbrev adN:=@Option.map_eq_some_iff
abbrev aeO:=@Option.pure_def
abbrev afL:=@Option.map_some
abbrev af5:=@Option.getD_some
abbrev agH:=@Option.bind_some
abbrev abe:=@Bool.false_eq_true
abbrev ae9:=@Bool.and_eq_true
abbrev afP:=@Bool.not_true
abbrev af4:=@Bool.not_eq_true'
abbrev agd:=@Bool.or_eq_true
abbrev agp:=@Bool.eq_iff_iff
abbrev ahb:=@Bool.true_and
abbrev ahj:=@Bool.and_self
abbrev abx:=@List.mem_singleton
abbrev abL:=@List.mem_cons_self
abbrev acn:=@List.mem_cons
abbrev aco:=@List.mem_cons_of_mem
abbrev adq:=@List.getElem_mem
abbrev ae8:=@List.mem_append
abbrev afp:=@List.map_cons
abbrev afq:=@List.length_append
abbrev afr:=@List.getElem_of_mem
abbrev afu:=@List.append_assoc
abbrev afv:=@List.drop_eq_getElem_cons
abbrev afy:=@List.not_mem_nil
abbrev afz:=@List.getD_eq_getElem?_getD
abbrev afB:=@List.length_cons
abbrev afD:=@List.mem_append_left
abbrev afE:=@List.mem_map
abbrev afF:=@List.take_of_length_le
abbrev afG:=@List.getElem?_append_left
abbrev afH:=@List.length_take
abbrev afI:=@List.mem_map_of_mem
abbrev afJ:=@List.length_map
abbrev afK:=@List.take_append_getElem
abbrev afQ:=@List.eq_nil_of_length_eq_zero
abbrev afS:=@List.map_append
abbrev afV:=@List.perm_append_comm
abbrev afW:=@List.mem_append_right
abbrev afX:=@List.flatMap_append
abbrev afY:=@List.nodup_append
abbrev af0:=@List.getElem?_map
abbrev af2:=@List.length_singleton
abbrev af3:=@List.getElem?_eq_some_iff
abbrev af6:=@List.perm_middle
abbrev af9:=@List.getElem?_cons_succ
abbrev agb:=@List.cons_append
abbrev agc:=@List.flatMap_singleton
abbrev agf:=@List.nodup_cons
abbrev agi:=@List.getElem?_eq_getElem
abbrev agk:=@List.append_nil
abbrev agl:=@List.getElem?_append_right
abbrev agn:=@List.all_eq_true
abbrev agq:=@List.nil_append
abbrev agr:=@List.getElem?_replicate
abbrev ags:=@List.flatMap_cons
abbrev agu:=@List.map_nil
abbrev agv:=@List.length_drop
abbrev agw:=@List.getElem_map
abbrev agx:=@List.length_replicate
abbrev agy:=@List.take_append_drop
abbrev agC:=@List.length_set
abbrev agD:=@List.perm_ext_iff_of_nodup
abbrev agG:=@List.map_congr_left
abbrev agI:=@List.take_zero
abbrev agK:=@List.mem_range
abbrev agN:=@List.take_succ_cons
abbrev agO:=@List.getElem?_cons_zero
abbrev agP:=@List.mem_flatMap
abbrev agQ:=@List.mem_of_mem_take
abbrev agR:=@List.drop_of_length_le
abbrev agS:=@List.range_succ
abbrev agT:=@List.take_length
abbrev agV:=@List.getElem?_eq_none
abbrev agY:=@List.pairwise_cons
abbrev ag0:=@List.mem_filter
abbrev ag1:=@List.map_map
abbrev ag3:=@List.mem_reverse
abbrev ag4:=@List.drop_succ_cons
abbrev ag5:=@List.mapM_cons
abbrev ag7:=@List.map_replicate
abbrev ag9:=@List.nodup_nil
abbrev ahd:=@List.drop_zero
abbrev ahi:=@List.map_id
abbrev abS:=@Prod.mk.injEq
abbrev adv:=@Nat.le_refl
abbrev afo:=@Nat.eq_of_beq_eq_true
abbrev afx:=@Nat.le_of_ble_eq_true
abbrev afC:=@Nat.zero_add
abbrev afN:=@Nat.mul_le_mul_right
abbrev afT:=@Nat.lt_of_lt_of_le
abbrev afZ:=@Nat.lt_or_ge
abbrev af8:=@Nat.ble_eq_true_of_le
abbrev agh:=@Nat.blt_eq
abbrev agB:=@Nat.beq_refl
abbrev agE:=@Nat.le_trans
abbrev agM:=@Nat.add_assoc
abbrev agU:=@Nat.mul_one
abbrev agX:=@Nat.eq_zero_or_pos
abbrev agZ:=@Nat.min_eq_left
abbrev ag8:=@Nat.add_mul
abbrev ahc:=@Nat.add_zero
abbrev ahg:=@Nat.sub_zero
abbrev afm:=@Int.ofNat_eq_natCast
abbrev afs:=@Int.toNat_natCast
abbrev afA:=@Array.getElem?_setIfInBounds
abbrev afU:=@Array.getElem?_eq_none
abbrev af1:=@Array.getD_eq_getD_getElem?
abbrev af7:=@Array.length_toList
abbrev aga:=@Array.getElem?_toList
abbrev agF:=@Array.getElem?_push
abbrev ag6:=@Array.ext_getElem?
abbrev afM:=@List.cons.injEq
abbrev afO:=@Classical.byContradiction
abbrev agJ:=@Classical.not_not
abbrev ahe:=@List.Perm.refl
abbrev agt:=@List.Sublist.refl
abbrev ahf:=@Ne.symm
end Go.al
namespace Go.al
theorem ab{p:Prop}(h:p:=by omega):p:=h
theorem bo{p:Prop}(h:p:=by decide):p:=h
theorem aF{p:Prop}(h:p:=by simp):p:=h
theorem ap.{u}{c:Prop}{h:Decidable c}(k:¬c){e:Sort u}{t a:e}:ite c t a=a:=if_neg k
theorem aJ.{u}{c:Prop}{h:Decidable c}(k:c){e:Sort u}{t a:e}:ite c t a=t:=if_pos k
theorem bf.{u}{e:Sort u}{h:Decidable True}(t a:e):ite True t a=t:=if_true t a
theorem bD.{u}{e:Sort u}{h:Decidable False}(t a:e):ite False t a=a:=if_false t a
inductive af where
 |xH|xO(p:af)|xI(p:af)
 deriving DecidableEq
def af.succ:af->af
 |.xH=>.xO .xH
 |.xO p=>.xI p
 |.xI p=>.xO p.succ
def af.cr:Nat->af
 |0=>.xH
 |t+1=>(af.cr t).succ
inductive ak(α:Type)where
 |aG
 |node(l:ak α)(v:α)(r:ak α)
namespace ak
variable{e:Type}
def left:ak e->ak e
 |.aG=>.aG
 |.node l _ _=>l
def right:ak e->ak e
 |.aG=>.aG
 |.node _ _ r=>r
def val(d:e):ak e->e
 |.aG=>d
 |.node _ v _=>v
def get(d:e):af->ak e->e
 |.xH,t=>t.val d
 |.xO p,t=>get d p t.left
 |.xI p,t=>get d p t.right
def set(d:e):af->e->ak e->ak e
 |.xH,x,t=>.node t.left x t.right
 |.xO p,x,t=>.node (set d p x t.left) (t.val d) t.right
 |.xI p,x,t=>.node t.left (t.val d) (set d p x t.right)
def bp(d:e):ak e->Nat->e
 |.aG,_=>d
 |.node _ v _,0=>v
 |.node l _ r,m+1=>if m % 2=0 then bp d l (m/2)else bp d r (m/2)
def kY(d:e):(fuel:Nat)->Nat->e->ak e->ak e
 |_,0,x,t=>.node t.left x t.right
 |0,_+1,_,t=>t
 |f+1,m+1,x,t=>
  if m % 2=0 then .node (kY d f (m/2) x t.left) (t.val d) t.right
  else .node t.left (t.val d) (kY d f (m/2) x t.right)
end ak
inductive AV where
 |tuple(l:List AV)
 |agg(l:List AV)
 |bool(b:Bool)
 |int(k:Nat)(n:Int)
 |str(s:List Nat)
 |aE(id:af)(off:Nat)
 |kn
 |slice(id:af)(off len cap:Nat)(exact:Bool)
 |aH
 |map(id:af)
 |cC
 |func(f:Nat)(first captured:List AV)
 |yield(id:af)
 |nilFunc
 |iface(t:Nat)(v:AV)
 |nilIface
 |b9
 deriving Inhabited
abbrev AV.ahp:AV:=.tuple []
def AV.cells:AV->List AV
 |.agg l=>l
 |v=>[v]
def AV.dg:AV->Bool
 |.agg _|.tuple _|.b9=>false
 |_=>true
def AV.bC:AV->Bool
 |.b9=>false
 |_=>true
def kc:IntKind->Nat
 |.i8=>0|.i16=>1|.i32=>2|.i64=>3|.u8=>4|.u16=>5|.u32=>6|.u64=>7
def ck:Nat->IntKind
 |0=>.i8|1=>.i16|2=>.i32|3=>.i64|4=>.u8|5=>.u16|6=>.u32|_=>.u64
inductive aL where
 |t(p:af)
 |c(v:AV)
inductive cZ where
 |bool|int|str|aE|slice|map|func
 |iface(const empty:Bool)
 |dA(l:List (Nat×Nat×Bool×cZ))
inductive bE where
 |aR(x:aL)
 |pick(c a b:aL)
 |box(elem:Nat)(x:aL)
 |alloc(elem:Nat)(zs:List AV)
 |build(zs:List AV)(dA:List (Nat×Nat×aL))
 |buildSlice(elem len:Nat)(zs:List AV)(dA:List (Nat×Nat×aL))
 |bi(a:aL)
 |gR(n:Nat)(a:aL)
 |store(n:Nat)(a x:aL)
 |nilCheck(x:aL)
 |arith(op:BinOp)(k:Nat)(x y:aL)
 |shift(op:BinOp)(x y:aL)
 |lE(op:BinOp)(x y:aL)
 |eq(neg:Bool)(d:cZ)(x y:aL)
 |unary(op:UnOp)(x:aL)
 |jT(k:Nat)(x:aL)
 |sH(elem:Nat)(x:aL)
 |sI(x:aL)
 |zd(x:aL)
 |pP(t:Nat)(x:aL)
 |mK(f:Nat)(first captured:List aL)
 |jo
 |nI(elem bytes size:Nat)(zs:List AV)(len cap:aL)
 |qU(n size:Nat)(x:aL)(lo hi mx:Option aL)
 |gD(elem size:Nat)(x:aL)(lo hi mx:Option aL)
 |sJ(x:aL)(lo hi:Option aL)
 |jd(off:Nat)(x:aL)
 |part(agg:Bool)(off size:Nat)(x:aL)
 |sK(n size:Nat)(x i:aL)
 |ch(size:Nat)(x i:aL)
 |sL(agg:Bool)(n size:Nat)(x i:aL)
 |mL(x i:aL)
 |lookup(key:cZ)(zero:AV)(ok:Bool)(m k:aL)
 |iP(key:cZ)(m k v:aL)
 |mapEntry(key:cZ)(zero:AV)(m k:aL)
 |entryStore(m s v:aL)
 |oQ(x:aL)
 |qV(it:aL)
 |lF(x:aL)
 |jG(it:aL)
 |pQ(it:aL)
 |lG
 |typeAssert(t:Nat)(zero:AV)(ok:Bool)(x:aL)
 |extract(x:aL)(i:Nat)
 |qW(n:Nat)
 |nJ(x:aL)
 |iQ(x:aL)
 |sM(x:aL)
 |cap(x:aL)
 |append(elem bytes size:Nat)(zs:List AV)(ofMake:Bool)(s x:aL)
 |copy(size:Nat)(d s:aL)
 |uI(zs:List AV)(x:aL)
 |uJ(x:aL)
 |delete(key:cZ)(m k:aL)
 |nK(isMax:Bool)(l:List aL)
 |fill(m:aL)(ks:List (AV×aL))
 |call(f:aL)(args:List aL)
structure gE where
 dst:af
 op:bE
 guard:Option (af×Bool)
structure bA where
 dst:Option af
 op:bE
 guard:Option (af×Bool)
 fQ:List af
 re:List gE
inductive bg where
 |skip
 |region(l:List bA)
 |seq(a b:bg)
 |cond(c:aL)(a b:bg)
 |block(id:Nat)(b:bg)
 |loop(b:bg)
 |rangeFunc(f:aL)(params:List af)(assign body:bg)
 |exit(id:Nat)
 |ret
 |dD(t:Nat)
inductive bU where
 |none
 |exit(id:Nat)
 |ret
inductive oS where
 |ready|busy|done|exhausted
structure aT where
 key:AV
 val:AV
 born:Nat
inductive bL where
 |none
 |cells(c:ak AV)(n:Nat)(elem:Nat)(rw:Bool)(aM:List af)(fz:Nat)
 |map(es:List aT)(clock:Nat)
 |co(es:List aT)
 |jU(s:List Nat)(rest:List Nat)(pos:Nat)
 |loop(st:oS)(bP:bU)(fn:Nat)(aa:ak AV)(params:List af)(assign body:bg)(defers:af)
 |deferred(taken:Bool)
 |mapIter(m:Option af)(since:Nat)(seen:List Nat)(last:Nat)
 deriving Inhabited
structure ah where
 t:ak bL
 next:af
def ah.get(H:ah)(i:af):bL:=H.t.get .none i
def ah.set(H:ah)(i:af)(o:bL):ah:=⟨H.t.set .none i o,H.next⟩
def ah.new(H:ah)(o:bL):ah:=⟨H.t.set .none H.next o,H.next.succ⟩
def ah.dN(H:ah):List af->ah
 |[]=>H
 |i::l=>(H.set i .none).dN l
inductive fR where
 |tmp(p:af)
 |cell(p:af)(agg:Bool)(n:Nat)
inductive aX where
 |none
 |code(nt:Nat)(results:List fR)(body:bg)
 |gf(f:List AV->ah->Option (AV×ah))
 |dD(f:ak AV->ah->Option (ak AV×ah))
end Go.al
namespace Go.al
section
variable{e:Type}(b:e)(ask:Nat->(Nat->e)->e)
def gv(aa:ak AV)(x:aL):AV:=
 match x with
 |.t p=>aa.get .ahp p
 |.c v=>v
def eX(c:ak AV)(n off:Nat):Nat->Option (List AV)
 |0=>some []
 |m+1=>if off<n then(match eX c n (off+1) m with|some l=>some (c.bp .ahp off::l)|none=>none)else none
def dY(c:ak AV)(off:Nat):List AV->ak AV
 |[]=>c
 |v::l=>dY (c.kY .ahp off off v) (off+1) l
def bX(l:List AV):ak AV:=dY .aG 0 l
def dK(H:ah)(id:af)(off m:Nat):Option (List AV):=
 match H.get id with
 |.cells c n _ _ _ _=>eX c n off m
 |_=>none
def cL:List AV->Bool
 |[]=>true
 |v::l=>v.dg&&cL l
def fS(H:ah)(id:af)(off:Nat)(l:List AV):Option ah:=
 match H.get id with
 |.cells c n a true aM fz=>
  if decide (fz<=off)&&decide (off+l.length<=n)&&cL l then some ((H.dN aM).set id (.cells (dY c off l) n a true [] fz))else none
 |_=>none
def ir:List Nat->List Nat->Bool
 |[],[]=>true
 |a::l,c::m=>afw a c&&ir l m
 |_,_=>false
def nM:List Nat->List Nat->Bool
 |_,[]=>false
 |[],_::_=>true
 |a::l,c::m=>afR a c||(afw a c&&nM l m)
def af.beq:af->af->Bool
 |.xH,.xH=>true
 |.xO p,.xO q=>af.beq p q
 |.xI p,.xI q=>af.beq p q
 |_,_=>false
def fU:Int->Int->Bool
 |.ofNat a,.ofNat c=>afw a c
 |.negSucc a,.negSucc c=>afw a c
 |_,_=>false
def jH:Int->Int->Bool
 |.ofNat a,.ofNat c=>afR a c
 |.negSucc a,.negSucc c=>afR c a
 |.negSucc _,.ofNat _=>true
 |.ofNat _,.negSucc _=>false
def mM(agg:Bool)(l:List AV)(off size:Nat):Option AV:=
 if agg then some (.agg ((l.drop off).take size))else(l.drop off).head?
def cQ:(fuel:Nat)->cZ->AV->AV->Option Bool
 |_,.bool,.bool a,.bool m=>some (a==m)
 |_,.int,.int k a,.int l m=>if k=l then some (fU a m)else none
 |_,.str,.str a,.str m=>some (ir a m)
 |_,.aE,.kn,.kn=>some true
 |_,.aE,.kn,.aE _ _=>some false
 |_,.aE,.aE _ _,.kn=>some false
 |_,.aE,.aE a i,.aE m j=>if af.beq a m then some (afw i j)else none
 |_,.slice,.aH,.aH=>some true
 |_,.slice,.aH,.slice .. =>some false
 |_,.slice,.slice ..,.aH=>some false
 |_,.map,.cC,.cC=>some true
 |_,.map,.cC,.map _=>some false
 |_,.map,.map _,.cC=>some false
 |_,.func,.nilFunc,.nilFunc=>some true
 |_,.func,.nilFunc,.func .. =>some false
 |_,.func,.func ..,.nilFunc=>some false
 |_,.func,.nilFunc,.yield _=>some false
 |_,.func,.yield _,.nilFunc=>some false
 |_,.iface const empty,.nilIface,.nilIface=>if const||empty then some true else none
 |_,.iface _ _,.nilIface,.iface _ _=>some false
 |_,.iface _ _,.iface _ _,.nilIface=>some false
 |_,.iface _ _,.iface t _,.iface u _=>if afw t u then none else some false
 |f+1,.dA h,.agg c,.agg g=>go f c g h
 |_,_,_,_=>none
where
 go:(fuel:Nat)->List AV->List AV->List (Nat×Nat×Bool×cZ)->Option Bool
  |_,_,_,[]=>some true
  |0,_,_,_::_=>none
  |f+1,c,g,(off,size,agg,d)::h=>
   match mM agg c off size,mM agg g off size with
   |some x,some y=>
    match cQ f d x y with
    |some true=>go f c g h
    |some false=>some false
    |none=>none
   |_,_=>none
def kD(k:Nat)(n:Int):Int:=(ck k).wrap n
def fG(k:Nat)(n:Int):Int:=
 match k,n with
 |3,.ofNat m=>if afR m 9223372036854775808 then .ofNat m else kD 3 (.ofNat m)
 |3,.negSucc m=>if afR m 9223372036854775808 then .negSucc m else kD 3 (.negSucc m)
 |4,.ofNat m=>if afR m 256 then .ofNat m else kD 4 (.ofNat m)
 |k,n=>kD k n
def eR(op:BinOp)(k:Nat)(a c:Int):Option AV:=
 match op with
 |.add=>some (.int k (fG k (a+c)))
 |.sub=>some (.int k (fG k (a - c)))
 |.mul=>some (.int k (fG k (a*c)))
 |.quo=>if c=0 then none else some (.int k (fG k (a.tdiv c)))
 |.rem=>if c=0 then none else some (.int k (a.tmod c))
 |.and=>some (.int k (kD k (agj (ck k).bits a&&&agj (ck k).bits c).toNat))
 |.or=>some (.int k (kD k (agj (ck k).bits a|||agj (ck k).bits c).toNat))
 |.xor=>some (.int k (kD k (agj (ck k).bits a^^^agj (ck k).bits c).toNat))
 |.andNot=>some (.int k (kD k (agj (ck k).bits a&&& ~~~agj (ck k).bits c).toNat))
 |.eql=>some (.bool (fU a c))
 |.neq=>some (.bool (!fU a c))
 |.lss=>some (.bool (jH a c))
 |.leq=>some (.bool (!jH c a))
 |.gtr=>some (.bool (jH c a))
 |.geq=>some (.bool (!jH a c))
 |_=>none
def sN(op:BinOp)(k:Nat)(x y:AV):Option AV:=
 match x,y with
 |.int j a,.int l c=>if afw j k&&afw l k then eR op k a c else none
 |_,_=>none
def Bg(op:BinOp)(x y:AV):Option AV:=
 match x,y with
 |.int k a,.int _ (.ofNat c)=>
  let n:=min c (ck k).bits
  match op with
  |.shl=>some (.int k (fG k (a*2^n)))
  |.shr=>some (.int k (a.fdiv (2^n)))
  |_=>none
 |_,_=>none
def ze(op:BinOp)(x y:AV):Option AV:=
 match x,y with
 |.str a,.str c=>
  match op with
  |.add=>if a.length+c.length<4294967296 then some (.str (a++c))else none
  |.eql=>some (.bool (ir a c))
  |.neq=>some (.bool (!ir a c))
  |.lss=>some (.bool (nM a c))
  |.leq=>some (.bool (!nM c a))
  |.gtr=>some (.bool (nM c a))
  |.geq=>some (.bool (!nM a c))
  |_=>none
 |_,_=>none
def uK(op:UnOp)(x:AV):Option AV:=
 match op,x with
 |.neg,.int k n=>some (.int k (fG k (0 - n)))
 |.xor,.int k n=>eR .xor k (if(ck k).signed then -1 else(ck k).max) n
 |.not,.bool a=>some (.bool !a)
 |_,_=>none
def nN(l:List AV):(off:Nat)->List AV->Option (List AV)
 |0,[]=>some l
 |0,v::a=>match l with
  |[]=>none
  |_::l=>match nN l 0 a with|some c=>some (v::c)|none=>none
 |off+1,a=>match l with
  |[]=>none
  |x::l=>match nN l off a with|some c=>some (x::c)|none=>none
def kE(aa:ak AV)(l:List AV):List (Nat×Nat×aL)->Option (List AV)
 |[]=>some l
 |(off,size,x)::a=>
  let c:=(gv aa x).cells
  if(gv aa x).bC&&decide (c.length=size)then(match nN l off c with|some d=>kE aa d a|none=>none)else none
def eo(a:List AV):Nat->List AV
 |0=>[]
 |n+1=>a++eo a n
def l9(x:AV)(y:Nat):Option Nat:=
 match x with
 |.int _ (.ofNat i)=>if ago i y then some i else none
 |_=>none
def gS(aa:ak AV)(x:Option aL)(d y:Nat):Option Nat:=
 match x with
 |some x=>l9 (gv aa x) y
 |none=>some d
def findKey(d:cZ)(k:AV):List aT->Nat->Option (Option (Nat×AV))
 |[],_=>some none
 |a::es,i=>
  match cQ 64 d k a.key with
  |some true=>some (some (i,a.val))
  |some false=>findKey d k es (i+1)
  |none=>none
def lH:cZ->Bool
 |.int|.str|.bool=>true
 |_=>false
def dL(d:cZ)(k:AV)(es:List aT):Option (Option AV):=if lH d then go es else none
where
 go:List aT->Option (Option AV)
  |[]=>some none
  |a::es=>match cQ 64 d k a.key,go es with
   |some true,some none=>some (some a.val)
   |some false,some r=>some r
   |_,_=>none
def jI(d:cZ)(k:AV)(a:aT):Bool:=
 match cQ 64 d k a.key with
 |some c=>c
 |none=>false
def jJ(d:cZ)(k v:AV):List aT->List aT
 |[]=>[]
 |a::es=>(if jI d k a then{a with key:=k,val:=v}else a)::jJ d k v es
def ko(d:cZ)(k:AV):List aT->List aT
 |[]=>[]
 |a::es=>if jI d k a then ko d k es else a::ko d k es
def iu(v:AV)(k:AV):List aT->Nat->List aT
 |[],_=>[]
 |a::es,0=>{a with key:=k,val:=v}::es
 |a::es,i+1=>a::iu v k es i
def mN:List aT->Nat->List aT
 |[],_=>[]
 |_::es,0=>es
 |a::es,i+1=>a::mN es i
def qX:List aT->Nat->Nat
 |[],_=>0
 |a::_,0=>a.born
 |_::es,i+1=>qX es i
def ma(a:Nat):List aT->Nat->Option Nat
 |[],_=>none
 |c::es,i=>if afw c.born a then some i else ma a es (i+1)
def gh(H:ah)(size:Nat)(x:AV):Option (Nat×List AV):=
 match x with
 |.aH=>some (0,[])
 |.slice id off len _ _=>match dK H id off (len*size)with|some l=>some (len,l)|none=>none
 |.str s=>if afw size 1 then some (s.length,s.map λn=>.int 4 (.ofNat n))else none
 |_=>none
def dH(n:Nat):Bool:=ago n 70368744177664
def iR(d bytes size:Nat)(H:ah)(s:AV)(n:Nat)(l:List AV):Option (AV×ah):=
 if !cL l then none else
 match s with
 |.aH=>
  if afw n 0 then some (.aH,H)
  else if dH (n*bytes)&&dH n then some (.slice H.next 0 n n false,H.new (.cells (bX l) (n*size) d true [] 0))else none
 |.slice id off len cap exact=>
  let a:=len+n
  if ago a cap then
   if afw n 0 then some (.slice id off a cap exact,H)else
   match fS H id (off+len*size) l with
   |some f=>some (.slice id off a cap exact,f)
   |none=>none
  else if !(dH (a*bytes)&&dH a)then none else
   match H.get id with
   |.cells c m g rw aM fz=>
    match eX c m off (len*size)with
    |none=>none
    |some cG=>
     if exact then some (.slice H.next 0 a a false,H.new (.cells (bX (cG++l)) (a*size) d true [] 0))
     else if rw&&afw len cap&&afw (off+cap*size) m&&afw g d&&ago fz m then
      some (.slice H.next 0 a a false,(H.set id (.cells c m g false aM fz)).new (.cells (bX (cG++l)) (a*size) d true (id::aM) (fz - off)))
     else none
   |_=>none
 |_=>none
def gF(H:ah)(a:AV)(n:Nat)(agg:Bool):Option AV:=
 match a with
 |.aE id off=>
  match dK H id off n with
  |some l=>if agg then some (.agg l)else l.head?
  |none=>none
 |_=>none
def uL(c:Bool):AV->List AV->Option AV
 |x,[]=>some x
 |.int k a,.int l f::d=>if afw k l then uL c (.int k (if c then(if jH a f then f else a)else(if jH f a then f else a))) d else none
 |_,_=>none
def I4:AV->Option Nat
 |.int 4 (.ofNat n)=>if afR n 256 then some n else none
 |_=>none
def zf:List AV->Option (List Nat)
 |[]=>some []
 |v::l=>match I4 v,zf l with
  |some n,some r=>some (n::r)
  |_,_=>none
def sO:List Nat->Nat->Option Nat
 |[],_=>none
 |a::_,0=>some a
 |_::l,i+1=>sO l i
def kZ:List AV->Nat->Option AV
 |[],_=>none
 |a::_,0=>some a
 |_::l,i+1=>kZ l i
def mO:(fuel:Nat)->cZ->AV->Bool
 |_,.bool,.bool _=>true
 |_,.int,.int _ _=>true
 |_,.str,.str _=>true
 |_,.aE,.aE _ _=>true
 |_,.aE,.kn=>true
 |f+1,.dA c,.agg a=>go f a c
 |_,_,_=>false
where
 go:(fuel:Nat)->List AV->List (Nat×Nat×Bool×cZ)->Bool
  |_,_,[]=>true
  |0,_,_::_=>false
  |f+1,a,(off,size,agg,d)::c=>match mM agg a off size with
   |some x=>mO f d x&&go f a c
   |none=>false
def gG(d:cZ)(k:AV):Bool:=
 match d with
 |.dA _=>mO 64 d k
 |.iface _ _=>false
 |_=>true
def ED:AV->AV->Bool
 |.bool a,.bool c=>a==c
 |.int j a,.int k c=>afw j k&&fU a c
 |.str a,.str c=>ir a c
 |_,_=>false
def uM:List AV->List AV->Bool
 |[],[]=>true
 |a::l,c::m=>ED a c&&uM l m
 |_,_=>false
def qY(d:cZ)(k:AV):List aT->Nat->Bool
 |[],_=>false
 |a::_,0=>match d,k,a.key with
  |.dA _,.agg l,.agg m=>uM l m
  |.dA _,_,_=>false
  |_,_,_=>true
 |_::es,i+1=>qY d k es i
def oT(H:ah)(id:af)(a:Nat):Bool:=
 match H.get id with
 |.cells _ _ c _ _ _=>afw c a
 |_=>false
def u8(s:List Nat)(a:Nat):Nat×Nat:=Utf8.decode ⟨(s.map ahh).toArray⟩ a
def aD(o:bE)(aa:ak AV)(H:ah):Option (AV×ah):=
 let pure(v:AV):Option (AV×ah):=some (v,H)
 let r(v:Option AV):Option (AV×ah):=v.map λv=>(v,H)
 match o with
 |.aR x=>pure (gv aa x)
 |.pick c a I=>match gv aa c with
  |.bool t=>pure (if t then gv aa a else gv aa I)
  |_=>none
 |.box q x=>
  let l:=(gv aa x).cells
  if cL l then some (.aE H.next 0,H.new (.cells (bX l) l.length q true [] 0))else none
 |.alloc q A=>some (.aE H.next 0,H.new (.cells (bX A) A.length q true [] 0))
 |.build A dA=>r ((kE aa A dA).map .agg)
 |.buildSlice q len A dA=>
  match kE aa (eo A len) dA with
  |some l=>if cL l then some (.slice H.next 0 len len true,H.new (.cells (bX l) l.length q true [] 0))else none
  |none=>none
 |.bi a=>r (gF H (gv aa a) 1 false)
 |.gR n a=>r (gF H (gv aa a) n true)
 |.store n a x=>
  match gv aa a with
  |.aE id off=>
   let l:=(gv aa x).cells
   if l.length=n then(match fS H id off l with|some E=>some (.ahp,E)|none=>none)else none
  |_=>none
 |.nilCheck x=>match gv aa x with
  |.aE id off=>pure (.aE id off)
  |.func f a I=>pure (.func f a I)
  |.yield l=>pure (.yield l)
  |.iface t v=>pure (.iface t v)
  |.map m=>pure (.map m)
  |.slice a I c d J=>pure (.slice a I c d J)
  |_=>none
 |.arith op k x y=>r (sN op k (gv aa x) (gv aa y))
 |.shift op x y=>r (Bg op (gv aa x) (gv aa y))
 |.lE op x y=>r (ze op (gv aa x) (gv aa y))
 |.eq neg d x y=>r ((cQ 64 d (gv aa x) (gv aa y)).map λI=>.bool (I !=neg))
 |.unary op x=>r (uK op (gv aa x))
 |.jT k x=>match gv aa x with
  |.int _ n=>pure (.int k (fG k n))
  |_=>none
 |.sH q x=>match gv aa x with
  |.str s=>some (.slice H.next 0 s.length s.length false,H.new (.cells (bX (s.map λn=>.int 4 (.ofNat n))) s.length q true [] 0))
  |_=>none
 |.zd x=>match gv aa x with
  |.str s=>pure (.str s)
  |_=>none
 |.sI x=>match gv aa x with
  |.aH=>pure (.str [])
  |.slice id off len _ _=>match dK H id off len with
   |some l=>(zf l).map λs=>(.str s,H)
   |none=>none
  |_=>none
 |.pP t x=>pure (.iface t (gv aa x))
 |.mK f a I=>pure (.func f (a.map (gv aa)) (I.map (gv aa)))
 |.jo=>some (.map H.next,H.new (.map [] 0))
 |.nI q bytes size A len cap=>
  match gv aa len,gv aa cap with
  |.int 3 (.ofNat l),.int 3 (.ofNat c)=>
   if ago l c&&dH (c*bytes)&&dH c then some (.slice H.next 0 l c true,H.new (.cells (bX (eo A c)) (c*size) q true [] 0))else none
  |_,_=>none
 |.qU n size x lo hi D=>
  match gv aa x with
  |.aE id off=>do
   let m<-gS aa D n n
   let h<-gS aa hi n m
   let l<-gS aa lo 0 h
   some (.slice id (if m=l then off else off+l*size) (h - l) (m - l) true,H)
  |_=>none
 |.gD q size x lo hi D=>
  match gv aa x with
  |.aH=>do
   let m<-gS aa D 0 0
   let h<-gS aa hi 0 m
   let _<-gS aa lo 0 h
   some (.aH,H)
  |.slice id off len cap exact=>do
   let m<-gS aa D cap cap
   let h<-gS aa hi len m
   let l<-gS aa lo 0 h
   if exact||D.isSome||lo.isNone||oT H id q then
    some (.slice id (if exact&&m=l then off else off+l*size) (h - l) (m - l) (exact||D.isSome),H)
   else none
  |_=>none
 |.sJ x lo hi=>
  match gv aa x with
  |.str s=>do
   let n:=s.length
   let h<-gS aa hi n n
   let l<-gS aa lo 0 h
   some (.str ((s.drop l).take (h - l)),H)
  |_=>none
 |.jd off x=>match gv aa x with
  |.aE id o=>pure (.aE id (o+off))
  |_=>none
 |.part agg off size x=>match gv aa x with
  |.agg l=>r (mM agg l off size)
  |_=>none
 |.sK n size x i=>match gv aa x,gv aa i with
  |.aE id o,.int _ (.ofNat j)=>if afR j n then pure (.aE id (o+j*size))else none
  |_,_=>none
 |.ch size x i=>match gv aa x,gv aa i with
  |.slice id o len _ _,.int _ (.ofNat j)=>if afR j len then pure (.aE id (o+j*size))else none
  |_,_=>none
 |.sL agg n size x i=>match gv aa x,gv aa i with
  |.agg l,.int _ (.ofNat j)=>if afR j n then r (mM agg l (j*size) size)else none
  |_,_=>none
 |.mL x i=>match gv aa x,gv aa i with
  |.str s,.int _ (.ofNat j)=>r ((sO s j).map λn=>.int 4 (.ofNat n))
  |_,_=>none
 |.lookup key zero ok m k=>
  if !gG key (gv aa k)then none else
  let aB(v:AV)(I:Bool):Option (AV×ah):=pure (if ok then .tuple [v,.bool I]else v)
  match gv aa m with
  |.cC=>aB zero false
  |.map id=>match H.get id with
   |.map es _=>match findKey key (gv aa k) es 0 with
    |some (some (_,v))=>aB v true
    |some none=>aB zero false
    |none=>none
   |.co es=>match dL key (gv aa k) es with
    |some (some v)=>aB v true
    |some none=>aB zero false
    |none=>none
   |_=>none
  |_=>none
 |.iP key m k v=>
  if !gG key (gv aa k)then none else
  match gv aa m with
  |.map id=>match H.get id with
   |.map es g=>match findKey key (gv aa k) es 0 with
    |some (some (i,_))=>if qY key (gv aa k) es i then some (.ahp,H.set id (.map (iu (gv aa v) (gv aa k) es i) g))else none
    |some none=>some (.ahp,H.set id (.map (es++[⟨gv aa k,gv aa v,g⟩]) (g+1)))
    |none=>none
   |.co es=>match dL key (gv aa k) es with
    |some (some _)=>some (.ahp,H.set id (.co (jJ key (gv aa k) (gv aa v) es)))
    |some none=>some (.ahp,H.set id (.co (es++[⟨gv aa k,gv aa v,0⟩])))
    |none=>none
   |_=>none
  |_=>none
 |.mapEntry key zero m k=>
  if !gG key (gv aa k)then none else
  match gv aa m with
  |.map id=>match H.get id with
   |.map es g=>match findKey key (gv aa k) es 0 with
    |some (some (i,v))=>if qY key (gv aa k) es i then some (.tuple [v,.int 3 (.ofNat (qX es i))],H.set id (.map (iu v (gv aa k) es i) g))else none
    |some none=>some (.tuple [zero,.int 3 (.ofNat g)],H.set id (.map (es++[⟨gv aa k,zero,g⟩]) (g+1)))
    |none=>none
   |_=>none
  |_=>none
 |.entryStore m s v=>
  match gv aa m,gv aa s with
  |.map id,.int _ (.ofNat I)=>match H.get id with
   |.map es g=>match ma I es 0 with
    |some i=>some (.ahp,H.set id (.map (es.modify i λJ=>{J with val:=gv aa v}) g))
    |none=>none
   |_=>none
  |_,_=>none
 |.oQ x=>match gv aa x with
  |.str s=>some (.aE H.next 0,H.new (.jU s s 0))
  |_=>none
 |.qV G=>match gv aa G with
  |.aE id 0=>match H.get id with
   |.jU s z w=>match z with
    |[]=>pure (.tuple [.bool false])
    |c::z=>if afR c 128 then some (.tuple [.bool true,.int 3 (.ofNat w),.int 2 (.ofNat c)],H.set id (.jU s z (w+1)))else some (.tuple [.bool true,.int 3 (.ofNat w),.int 2 (.ofNat (u8 s w).1)],H.set id (.jU s (s.drop (w+(u8 s w).2)) (w+(u8 s w).2)))
   |_=>none
  |_=>none
 |.lF x=>match gv aa x with
  |.cC=>some (.aE H.next 0,H.new (.mapIter none 0 [] 0))
  |.map m=>match H.get m with
   |.map _ g=>some (.aE H.next 0,H.new (.mapIter (some m) g [] g))
   |_=>none
  |_=>none
 |.jG _|.lG=>none
 |.pQ G=>match gv aa G with
  |.aE id 0=>match H.get id with
   |.mapIter (some m) _ seen F=>match seen.getLast?,H.get m with
    |some I,.map es g=>if afw g F then(match ma I es 0 with
     |some i=>match es[i]? with
      |some J=>pure (.tuple [J.key,J.val])
      |none=>none
     |none=>none)else none
    |_,_=>none
   |_=>none
  |_=>none
 |.typeAssert t zero ok x=>match gv aa x with
  |.nilIface=>if ok then pure (.tuple [zero,.bool false])else none
  |.iface u v=>if afw u t then pure (if ok then .tuple [v,.bool true]else v)else if ok then pure (.tuple [zero,.bool false])else none
  |_=>none
 |.extract x i=>match gv aa x with
  |.tuple l=>r (kZ l i)
  |_=>none
 |.qW n=>pure (.int 3 (.ofNat n))
 |.nJ x=>match gv aa x with
  |.str s=>pure (.int 3 (.ofNat s.length))
  |_=>none
 |.iQ x=>match gv aa x with
  |.slice _ _ n _ _=>pure (.int 3 (.ofNat n))
  |.aH=>pure (.int 3 (.ofNat 0))
  |_=>none
 |.sM x=>match gv aa x with
  |.cC=>pure (.int 3 (.ofNat 0))
  |.map id=>match H.get id with
   |.map es _=>pure (.int 3 (.ofNat es.length))
   |.co es=>pure (.int 3 (.ofNat es.length))
   |_=>none
  |_=>none
 |.cap x=>match gv aa x with
  |.slice _ _ _ n true=>pure (.int 3 (.ofNat n))
  |.aH=>pure (.int 3 (.ofNat 0))
  |_=>none
 |.append q bytes size A B s x=>
  if B then
   match gv aa x with
   |.int 3 (.ofNat n)=>if dH (n*bytes)&&dH n then iR q bytes size H (gv aa s) n (eo A n)else none
   |_=>none
  else
   match gh H size (gv aa x)with
   |some (n,l)=>iR q bytes size H (gv aa s) n l
   |none=>none
 |.copy size d s=>
  match gv aa d,gh H size (gv aa s)with
  |.aH,some _=>pure (.int 3 (.ofNat 0))
  |.slice id off len _ _,some (n,l)=>
   let m:=min n len
   if m=0 then pure (.int 3 (.ofNat 0))else
   match fS H id off (l.take (m*size))with
   |some E=>some (.int 3 (.ofNat m),E)
   |none=>none
  |_,_=>none
 |.uI A x=>match gv aa x with
  |.aH=>pure .ahp
  |.slice id off n _ _=>if n=0 then pure .ahp else match fS H id off (eo A n)with
   |some E=>some (.ahp,E)
   |none=>none
  |_=>none
 |.uJ x=>match gv aa x with
  |.cC=>pure .ahp
  |.map id=>match H.get id with
   |.map _ g=>some (.ahp,H.set id (.map [] g))
   |_=>none
  |_=>none
 |.delete key m k=>
  if !gG key (gv aa k)then none else
  match gv aa m with
  |.cC=>pure .ahp
  |.map id=>match H.get id with
   |.map es g=>match findKey key (gv aa k) es 0 with
    |some (some (i,_))=>some (.ahp,H.set id (.map (mN es i) g))
    |some none=>some (.ahp,H.set id (.map es g))
    |none=>none
   |.co es=>match dL key (gv aa k) es with
    |some _=>some (.ahp,H.set id (.co (ko key (gv aa k) es)))
    |none=>none
   |_=>none
  |_=>none
 |.nK C l=>match l.map (gv aa)with
  |x::z=>r (uL C x z)
  |[]=>none
 |.fill m ks=>match gv aa m with
  |.map id=>match H.get id with
   |.map [] 0=>some (.ahp,H.set id (.co (ks.map λp=>⟨p.1,gv aa p.2,0⟩)))
   |_=>none
  |_=>none
 |.call _ _=>none
def pR(H:ah)(g:AV):Option (List (Option aT)×(Option aT->AV×ah)):=
 match g with
 |.aE id 0=>match H.get id with
  |.mapIter none _ _ _=>some ([none],λ_=>(.tuple [.bool false],H))
  |.mapIter (some m) a seen f=>match H.get m with
   |.map es d=>
    if !seen.isEmpty&&!es.isEmpty&&es.all (λh=>ago f h.born)then none else
    let left:=es.filter λh=>!seen.contains h.born
    let cG:=left.filter λh=>afR h.born a
    let new:=left.filter λh=>!afR h.born a
    some ((if cG.isEmpty then[none]else[])++(cG++new).map some,λc=>match c with
     |some h=>(.tuple [.bool true,h.key,h.val],H.set id (.mapIter (some m) a (seen++[h.born]) d))
     |none=>(.tuple [.bool false],H))
   |_=>none
  |_=>none
 |_=>none
def fy:AV->AV->Bool
 |.bool a,.bool c=>a==c
 |.int k a,.int l c=>afw k l&&fU a c
 |.str a,.str c=>ir a c
 |.aE a i,.aE c j=>af.beq a c&&afw i j
 |.kn,.kn=>true
 |.slice a i j k d,.slice c l m n f=>af.beq a c&&afw i l&&afw j m&&afw k n&&(d==f)
 |.aH,.aH=>true
 |.map a,.map c=>af.beq a c
 |.cC,.cC=>true
 |.yield a,.yield c=>af.beq a c
 |.nilFunc,.nilFunc=>true
 |.nilIface,.nilIface=>true
 |_,_=>false
def lI:List AV->List AV->Bool
 |[],[]=>true
 |a::l,c::m=>fy a c&&lI l m
 |_,_=>false
def gT:AV->AV->Bool
 |.agg l,.agg m=>lI l m
 |.tuple l,.tuple m=>lI l m
 |.func f a h,.func g c d=>afw f g&&lI a c&&lI h d
 |a,h=>fy a h
def fA:AV->Option af
 |.aE i _=>some i
 |.slice i _ _ _ _=>some i
 |.map i=>some i
 |_=>none
def cW(aa:ak AV)(H:ah):List af->ah×List (af×bL)
 |[]=>(H,[])
 |p::l=>match fA (aa.get .ahp p)with
  |some i=>let r:=cW aa (H.set i .none) l;(r.1,(i,H.get i)::r.2)
  |none=>cW aa H l
def cH(H:ah):List (af×bL)->ah
 |[]=>H
 |(i,o)::l=>(cH H l).set i o
def iS:List AV->af->ak AV->ak AV
 |[],_,t=>t
 |v::l,p,t=>iS l p.succ (t.set .ahp p v)
def kF:List af->List AV->ak AV->ak AV
 |p::a,v::c,t=>kF a c (t.set .ahp p v)
 |_,_,t=>t
def ef(aa:ak AV)(H:ah):List fR->Option (List AV)
 |[]=>some []
 |.tmp p::l=>(ef aa H l).map (aa.get .ahp p::·)
 |.cell p agg n::l=>match gF H (aa.get .ahp p) n agg,ef aa H l with
  |some v,some r=>some (v::r)
  |_,_=>none
def fL:List AV->AV
 |[v]=>v
 |l=>.tuple l
structure Fr where
 aa:ak AV
 br:List af
 bw:Option af
def aK(aa:ak AV)(d:Option af)(v:AV):ak AV:=
 match d with
 |some p=>aa.set .ahp p v
 |none=>aa
def dc(aa:ak AV):Option (af×Bool)->Bool
 |none=>true
 |some (p,a)=>match aa.get .ahp p with
  |.bool c=>c==a
  |_=>false
def iT(aa:ak AV):Option (af×Bool)->Bool
 |none=>true
 |some (p,_)=>(aa.get .ahp p).bC
def du(aa:ak AV)(H:ah):List gE->Bool
 |[]=>true
 |r::l=>
  (if dc aa r.guard then(match aD r.op aa H with
    |some (w,_)=>gT (aa.get .ahp r.dst) w
    |none=>false)else true)&&du aa H l
def gZ(H:ah):List af->Option ah
 |[]=>some H
 |i::l=>match H.get i with
  |.deferred false=>gZ (H.set i (.deferred true)) l
  |_=>none
variable(ac:Nat->aX)
mutual
def exec:(n:Nat)->bg->Fr->ah->(bU->Fr->ah->e)->e
 |0,_,_,_,_=>b
 |n+1,c,fr,H,K=>
  match c with
  |.skip=>K .none fr H
  |.region l=>az n l fr H (K .none)
  |.seq a o=>exec n a fr H λj fr H=>match j with
   |.none=>exec n o fr H K
   |j=>K j fr H
  |.cond c a o=>match gv fr.aa c with
   |.bool true=>exec n a fr H K
   |.bool false=>exec n o fr H K
   |_=>b
  |.block id o=>exec n o fr H λj fr H=>match j with
   |.exit i=>if afw i id then K .none fr H else K (.exit i) fr H
   |j=>K j fr H
  |.loop o=>exec n o fr H λj fr H=>match j with
   |.none=>exec n (.loop o) fr H K
   |j=>K j fr H
  |.exit id=>K (.exit id) fr H
  |.ret=>K .ret fr H
  |.dD t=>match ac t with
   |.dD g=>match g fr.aa H with
    |some (aa,H)=>K .none {fr with aa:=aa} H
    |none=>b
   |_=>b
  |.rangeFunc f params assign body=>
   let go(fr:Fr)(H:ah)(d:af):e:=
    dT n (gv fr.aa f) [.yield H.next] (H.new (.loop .ready .none 0 fr.aa params assign body d)) λ_ h=>
     match h.get H.next with
     |.loop st bP fn aa k as m d=>
      match st with
      |.busy=>b
      |_=>K bP fr (h.set H.next (.loop .exhausted bP fn aa k as m d))
     |_=>b
   match fr.bw with
   |none=>go {fr with br:=H.next::fr.br} (H.new (.deferred false)) H.next
   |some l=>match H.get l with
    |.loop _ _ _ _ _ _ _ d=>go fr H d
    |_=>b
def az:(n:Nat)->List bA->Fr->ah->(Fr->ah->e)->e
 |0,_,_,_,_=>b
 |_+1,[],fr,H,K=>K fr H
 |n+1,o::l,fr,H,K=>
  if dc fr.aa o.guard then
   let h:=cW fr.aa H o.fQ
   let after(v:AV)(H:ah):e:=
    let aa:=aK fr.aa o.dst v
    let H:=cH H h.2
    if du aa H o.re then az n l {fr with aa:=aa} H K else b
   match o.op with
   |.call f args=>dT n (gv fr.aa f) (args.map (gv fr.aa)) h.1 after
   |.jG d=>match pR h.1 (gv fr.aa d)with
    |some (cs,a)=>ask cs.length λi=>match cs[i]? with
     |some c=>after (a c).1 (a c).2
     |none=>b
    |none=>b
   |op=>match aD op fr.aa h.1 with
    |some (v,H)=>after v H
    |none=>b
  else if iT fr.aa o.guard then az n l {fr with aa:=aK fr.aa o.dst .ahp} H K else b
def dT:(n:Nat)->AV->List AV->ah->(AV->ah->e)->e
 |0,_,_,_,_=>b
 |n+1,f,args,H,K=>
  match f with
  |.func f first a=>
   match ac f with
   |.none|.dD _=>b
   |.gf g=>match g (first++args++a) H with
    |some (v,H)=>K v H
    |none=>b
   |.code i results body=>
    if ago (first++args++a).length i then
    exec n body ⟨iS (first++args++a) .xH .aG,[],none⟩ H λj fr H=>
     match j with
     |.exit _=>b
     |_=>match gZ H fr.br with
      |some H=>match ef fr.aa H results with
       |some l=>K (fL l) H
       |none=>b
      |none=>b
    else b
  |.yield l=>
   match H.get l with
   |.loop st bP fn aa c as h d=>
    match st with
    |.ready=>
     if args.length=c.length then
      exec n as ⟨kF c args aa,[],some l⟩ H λj fr H=>
       match j,H.get l with
       |.none,.loop .ready bP fn aa c as bd' d=>
        exec n h fr (H.set l (.loop .busy bP fn aa c as bd' d)) λj _ H=>
         match H.get l with
         |.loop _ _ fn aa c as h d=>
          match j with
          |.none=>K (.bool true) (H.set l (.loop .ready .none fn aa c as h d))
          |j=>K (.bool false) (H.set l (.loop .done j fn aa c as h d))
         |_=>b
       |_,_=>b
     else b
    |_=>b
   |_=>b
  |_=>b
end
end
abbrev T:=aL.t
abbrev C:=aL.c
abbrev I(k n:Nat):aL:=.c (.int k (.ofNat n))
abbrev J(k n:Nat):aL:=.c (.int k (.negSucc n))
abbrev O(d:af)(o:bE):bA:=⟨some d,o,none,[],[]⟩
abbrev N(o:bE):bA:=⟨none,o,none,[],[]⟩
abbrev R(d:af)(o:bE)(h:List af)(re:List gE):bA:=⟨some d,o,none,h,re⟩
abbrev M(o:bE)(h:List af)(re:List gE):bA:=⟨none,o,none,h,re⟩
abbrev G(d:af)(o:bE)(g:af)(b:Bool):bA:=⟨some d,o,some (g,b),[],[]⟩
abbrev G'(d:Option af)(o:bE)(g:af)(b:Bool)(h:List af)(re:List gE):bA:=⟨d,o,some (g,b),h,re⟩
abbrev i(k n:Nat):AV:=.int k (.ofNat n)
abbrev j(k n:Nat):AV:=.int k (.negSucc n)
end Go.al
end
