/- A part of the proof. No conditions. -/
import Derived.Test.YtjhkgigolpfcfaaGreatDoorA05
set_option linter.all false
open Option.some renaming injEq→acm
open Option renaming bind_eq_bind→adO,map_some→ahb,getD_some→ahs,bind_some→ah5
open List renaming mem_singleton→ac3,mem_cons_self→adc,mem_cons→adC,mem_cons_of_mem→adD,replicate→af3,append_assoc→agJ,length_append→agP,drop_eq_getElem_cons→agR,getD_eq_getElem?_getD→agY,length_map→agZ,perm_middle→ag1,mem_map→ag3,mem_map_of_mem→ag5,getElem?_map→ahc,length_cons→ahh,length_singleton→ahj,length_take→ahl,eq_nil_of_length_eq_zero→ahp,getElem?_eq_some_iff→ahv,perm_append_comm→ahD,getElem?_cons_succ→ahK,map_congr_left→ahZ,all_eq_true→ah1,length_drop→aih
open Bool renaming false_eq_true→ac6,and_eq_true→agM,not_true→ag9,and_self→aiq
open Nat renaming le_refl→adW,eq_of_beq_eq_true→agO,beq→agQ,le_of_ble_eq_true→agT,zero_add→agW,lt_of_lt_of_le→ag6,blt→aha,mul_le_mul_right→ahf,ble_eq_true_of_le→ahi,blt_eq→ahF,ble→ahG,beq_refl→ahQ,le_trans→ahY,add_assoc→ah3,mul_one→ah9,min_eq_left→aid,add_mul→aig,sub_zero→aip
open Int renaming ofNat_eq_natCast→agL,ofNat→ahI
open Eq renaming mpr→aiu
noncomputable section
namespace Go.ak
section
variable{ab:Nat→aE}
abbrev Kn:=List (ac×AV)
def lk:Kn→ac→AV
 |[],_=>.bX
 |(q,v)::l,p=>match ac.beq q p with
  |true=>v
  |false=>lk l p
def Le(L:Kn)(aa:am AV):Prop:=∀p v,lk L p=v→v=.bX∨aa.get .aiw p=v
def aV(L:Kn):aG→AV
 |.t p=>lk L p
 |.c v=>v
def bA(L:Kn)(d:Option ac)(v:AV):Kn:=
 match d with
 |some p=>(p,v)::L
 |none=>L
theorem Le.get{L:Kn}{aa:am AV}(h:Le L aa){p:ac}{v:AV}(b:lk L p=v)(a:v.bB=true):aa.get .aiw p=v:=by
 rcases h p v b with e|e;·rw[e]at a;cases a
 exact e
theorem Le.gv{L:Kn}{aa:am AV}(h:Le L aa){x:aG}{v:AV}(a:aV L x=v)(b:v.bB=true):gv aa x=v:=by cases x with|t p=>exact h.get a b|c w=>trivial
theorem Le.set{L:Kn}{aa:am AV}(h:Le L aa)(d:Option ac)(v:AV):Le (bA L d v) (aM aa d v):=by cases d with|none=>exact h|some p=>intro q w a;simp only[bA,aM,lk]at a⊢;rw[am.aD];cases hb:ac.beq p q with|true=>rw[hb]at a;rw[aH (ac.gT.1 hb).symm];exact .inr a|false=>rw[hb]at a;rw[an λe=>by rw[e,ac.gT.2 rfl]at hb;cases hb];exact h q w a
def kg:Kn→Kn→Prop
 |[],_=>True
 |(p,v)::l,m=>lk m p=v∧kg l m
theorem kg.get:∀{l m:Kn},kg l m→∀p v,lk l p=v→v=.bX∨lk m p=v|[],_,_,p,v,h=>.inl h.symm|(q,w)::l,m,h,p,v,a=>by simp only[lk]at a;cases hb:ac.beq q p with|true=>rw[hb]at a;rw[←ac.gT.1 hb];exact .inr (h.1.trans a)|false=>rw[hb]at a;exact kg.get h.2 p v a
theorem Le.rh{L M:Kn}{aa:am AV}(h:kg L M)(a:Le M aa):Le L aa:=λp v b=>by
 rcases h.get p v b with e|e;·grind
 exact a p v e
inductive SI where
 |code(c:bp)
 |aF(id:Nat)
structure Cx where
 K:cG→Fr→af→Prop
 M:List ac
 R:Option ac
def jU(ab:Nat→aE)(K:cG→Fr→af→Prop):List SI→cG→Fr→af→Prop
 |[],j,fr,H=>K j fr H
 |.code c::s,j,fr,H=>match j with
  |.none=>∃n,Xc ab n c fr H (jU ab K s)
  |j=>jU ab K s j fr H
 |.aF id::s,j,fr,H=>match j with
  |.exit i=>if agQ i id then jU ab K s .none fr H else jU ab K s (.exit i) fr H
  |j=>jU ab K s j fr H
def RJ(ab:Nat→aE)(c:Cx)(j:cG)(s:List SI)(L:Kn)(H:af):Prop:=∀aa,Le L aa→jU ab c.K s j ⟨aa,c.M,c.R⟩ H
def Ru(ab:Nat→aE)(c:Cx)(s:List SI)(L:Kn)(H:af):Prop:=RJ ab c .none s L H
def RO(ab:Nat→aE)(c:Cx)(l:List aS)(s:List SI)(L:Kn)(H:af):Prop:=∀aa,Le L aa→∃n,Xo ab n l ⟨aa,c.M,c.R⟩ H (jU ab c.K s .none)
def YF(ab:Nat→aE)(f:AV)(args:List AV)(H:af)(K:AV→af→Prop):Prop:=∃n,Xf ab n f args H K
variable{c:Cx}{s:List SI}{L:Kn}{H:af}
theorem Ru.rh{M:Kn}(h:Ru ab c s L H)(hl:kg L M):Ru ab c s M H:=λaa a=>h aa (a.rh hl)
theorem YF.mono{f:AV}{args:List AV}{K a:AV→af→Prop}(h:YF ab f args H K)(b:∀v H,K v H→a v H):YF ab f args H a:=by obtain⟨n,h⟩:=h;exact⟨n,h.mono (adW _) b⟩
theorem nR{n:Nat}{a:bp}{s:List SI}{b:bp}{fr:Fr}{K:cG→Fr→af→Prop}(h:Xc ab n a fr H (jU ab K (.code b::s))):∃k,Xc ab k a fr H λj fr H=>match j with|.none=>Xc ab k b fr H (jU ab K s)|j=>jU ab K s j fr H:=by obtain⟨m,d⟩:=(zr ab n).exec (K:=λm j fr H=>match j with|.none=>Xc ab m b fr H (jU ab K s)|j=>jU ab K s j fr H) (λm e j fr H c hj=>by cases j with|none=>exact hj.mono c λ_ _ _ h=>h|exit i=>omega|ret=>omega) ((mono ab n).exec (adW _) (λj fr H hj=>by cases j with|none=>trivial|exit i=>exact⟨0,hj⟩|ret=>exact⟨0,hj⟩) h);refine⟨max n m,(show Xc ab n a fr H _ from d).mono (Nat.le_max_left ..) λj fr H hj=>?_⟩;cases j with|none=>exact(show Xc ab m b fr H _ from hj).mono (Nat.le_max_right ..) λ_ _ _ h=>h|exit i=>omega|ret=>omega
theorem Ru.seq{a b:bp}(h:Ru ab c (.code a:: .code b::s) L H):Ru ab c (.code (.seq a b)::s) L H:=λaa d=>by obtain⟨n,e⟩:=h aa d;obtain⟨k,f⟩:=nR e;exact⟨k+1,Xc.seq f⟩
theorem Ru.loop{b:bp}(h:Ru ab c (.code b:: .code (.loop b)::s) L H):Ru ab c (.code (.loop b)::s) L H:=λaa a=>by obtain⟨n,d⟩:=h aa a;obtain⟨k,e⟩:=nR d;exact⟨k+1,Xc.loop e⟩
theorem Ru.region{l:List aS}(h:RO ab c l s L H):Ru ab c (.code (.region l)::s) L H:=λaa a=>by obtain⟨n,b⟩:=h aa a;exact⟨n+1,Xc.region b⟩
theorem Ru.skip(h:Ru ab c s L H):Ru ab c (.code .skip::s) L H:=λaa a=>⟨1,Xc.skip (h aa a)⟩
theorem Ru.block{id:Nat}{b:bp}(h:Ru ab c (.code b:: .aF id::s) L H):Ru ab c (.code (.block id b)::s) L H:=λaa a=>by obtain⟨n,d⟩:=h aa a;exact⟨n+1,Xc.block (d.mono (adW _) λj fr H hj=>by cases j<;>exact hj)⟩
theorem Ru.oD{x:aG}{a b:bp}(h:Ru ab c (.code a::s) L H)(e:aV L x=.bool true:=by(conv=>lhs;whnf)<;>rfl):Ru ab c (.code (.cond x a b)::s) L H:=λaa d=>by obtain⟨n,f⟩:=h aa d;exact⟨n+1,Xc.oD (d.gv e rfl) f⟩
theorem Ru.mQ{x:aG}{a b:bp}(h:Ru ab c (.code b::s) L H)(e:aV L x=.bool false:=by(conv=>lhs;whnf)<;>rfl):Ru ab c (.code (.cond x a b)::s) L H:=λaa d=>by obtain⟨n,f⟩:=h aa d;exact⟨n+1,Xc.mQ (d.gv e rfl) f⟩
theorem Ru.kh{x:aG}{a b:bp}{t:Bool}(h1:t=true→Ru ab c (.code a::s) L H)(h2:t=false→Ru ab c (.code b::s) L H)(d:aV L x=.bool t:=by(conv=>lhs;whnf)<;>rfl):Ru ab c (.code (.cond x a b)::s) L H:=by cases t with|true=>exact Ru.oD (h1 rfl) d|false=>exact Ru.mQ (h2 rfl) d
theorem Ru.cond{x:aG}{a b:bp}{p:Prop} [Decidable p](h1:p→Ru ab c (.code a::s) L H)(h2:¬p→Ru ab c (.code b::s) L H)(d:aV L x=.bool (decide p):=by(conv=>lhs;whnf)<;>rfl):Ru ab c (.code (.cond x a b)::s) L H:=Ru.kh (λh=>h1 (of_decide_eq_true h)) (λh=>h2 (of_decide_eq_false h)) d
theorem Ru.exit{id:Nat}(h:RJ ab c (.exit id) s L H):Ru ab c (.code (.exit id)::s) L H:=λaa a=>⟨1,Xc.exit (h aa a)⟩
theorem Ru.ret(h:RJ ab c .ret s L H):Ru ab c (.code .ret::s) L H:=λaa a=>⟨1,Xc.ret (h aa a)⟩
theorem Ru.aF{id:Nat}(h:Ru ab c s L H):Ru ab c (.aF id::s) L H:=h
theorem RJ.code{a:bp}{i:Nat}(h:RJ ab c (.exit i) s L H):RJ ab c (.exit i) (.code a::s) L H:=h
theorem RJ.U0{i:Nat}(h:Ru ab c s L H):RJ ab c (.exit i) (.aF i::s) L H:=λaa a=>by simp only[jU,ahQ,bm];exact h aa a
theorem RJ.U1{i id:Nat}(hi:agQ i id=false)(h:RJ ab c (.exit i) s L H):RJ ab c (.exit i) (.aF id::s) L H:=λaa a=>by simp only[jU,hi,ac6,bK];exact h aa a
theorem RJ.U2{a:bp}(h:RJ ab c .ret s L H):RJ ab c .ret (.code a::s) L H:=h
theorem RJ.U3{id:Nat}(h:RJ ab c .ret s L H):RJ ab c .ret (.aF id::s) L H:=h
theorem RJ.vu:∀{s:List SI},RJ ab c .ret [] L H→RJ ab c .ret s L H|[],h=>h|.code _::_,h=>RJ.U2 (RJ.vu h)|.aF _::_,h=>RJ.U3 (RJ.vu h)
def Bk(i:Nat):List SI→Option (List SI)
 |[]=>none
 |.code _::s=>Bk i s
 |.aF id::s=>if agQ i id then some s else Bk i s
theorem RJ.G2{i:Nat}:∀{s t:List SI},Bk i s=some t→Ru ab c t L H→RJ ab c (.exit i) s L H
 |[],_,h,_=>by cases h
 |.code _::s,t,h,k=>RJ.code (RJ.G2 h k)
 |.aF id::s,t,h,k=>by
  simp only[Bk]at h;split at h;·simp_all[agO,RJ.U0]
  rename_i e;exact RJ.U1 (by grind) (RJ.G2 h k)
theorem Ru.exitTo{i:Nat}{t:List SI}(k:Ru ab c t L H)(h:Bk i s=some t:=by rfl):Ru ab c (.code (.exit i)::s) L H:=Ru.exit (RJ.G2 h k)
theorem RO.nil(h:Ru ab c s L H):RO ab c [] s L H:=λaa a=>⟨1,Xo.nil (h aa a)⟩
theorem RO.op{d:Option ac}{op:bO}{l:List aS}{v:AV}{H':af}(he:∀aa,Le L aa→aB op aa H=some (v,H'))(h:RO ab c l s (bA L d v) H'):RO ab c (⟨d,op,none,[],[]⟩::l) s L H:=λaa a=>by obtain⟨n,b⟩:=h _ (a.set d v);exact⟨n+1,Xo.op (he aa a) b⟩
theorem RO.call{d:Option ac}{f:aG}{args:List aG}{l:List aS}{fv:AV}{b:List AV}(h:YF ab fv b H λv H'=>RO ab c l s (bA L d v) H')(k:aV L f=fv:=by(conv=>lhs;whnf)<;>rfl)(g:fv.bB=true:=by first|rfl|assumption)(o:args.map (aV L)=b:=by rfl)(i:b.all AV.bB=true:=by first|rfl|assumption):RO ab c (⟨d,.call f args,none,[],[]⟩::l) s L H:=λaa a=>by
 obtain⟨n,p⟩:=h;have j:args.map (gv aa)=b:=by subst o;refine ahZ λx q=>?_;exact a.gv rfl (ah1.1 i _ (ag5 q))
 obtain⟨m,e⟩:=(zr ab n).call (K:=λm v H'=>Xo ab m l ⟨aM aa d v,c.M,c.R⟩ H' (jU ab c.K s .none)) (λm t v H e h=>h.mono e λ_ _ h=>h) ((mono ab n).call (adW _) (λv H' r=>r _ (a.set d v)) p);refine⟨max n m+1,Xo.call ?_⟩;rw[a.gv k g,j];exact(show Xf ab n fv b H _ from e).mono (Nat.le_max_left ..) λv H' h=>(show Xo ab m l _ H' _ from h).mono (Nat.le_max_right ..) λ_ _ h=>h
def pi(a:List iH)(K:AV→af→Prop)(j:cG)(fr:Fr)(H:af):Prop:=
 match j with
 |.exit _=>False
 |_=>match jw H fr.bF with
  |some H=>match gG fr.aa H a with
   |some l=>K (iu l) H
   |none=>False
  |none=>False
abbrev vA(a:List iH)(K:AV→af→Prop):Cx:=⟨pi a K,[],none⟩
theorem MP:∀(l:List AV)(p q:ac)(t:am AV),(kx l p t).get .aiw q=if p.al≤q.al∧q.al<p.al+l.length then l.getD (q.al - p.al) .aiw else t.get .aiw q
 |[],p,q,t=>by simp[kx,List.length_nil,an]
 |v::l,p,q,t=>by
  simp only[kx];rw[MP l p.succ q (t.set .aiw p v),ac.gz,am.aD];simp only[ahh];by_cases h1:p.al+1≤q.al∧q.al<p.al+1+l.length;·grind
  rw[an h1];by_cases h2:q=p;·grind
  rw[an h2,an];grind[ac.tL]
def vB:List AV→Nat→Kn
 |[],_=>[]
 |v::l,k=>(ac.dj k,v)::vB l (k+1)
theorem Le.vB:∀(l:List AV)(k:Nat)(aa:am AV),(∀i(h:i<l.length),aa.get .aiw (ac.dj (k+i))=l[i])→Le (vB l k) aa|[],_,_,_=>λp v h=>.inl h.symm|w::l,k,aa,h=>λp v a=>by simp only[Go.ak.vB,lk]at a;cases hb:ac.beq (ac.dj k) p with|true=>rw[hb]at a;rw[←ac.gT.1 hb,←a];exact .inr (h 0 (by simp))|false=>rw[hb]at a;exact Le.vB l (k+1) aa (λi hi=>by have:=h (i+1) (by simpa using hi);grind) p v a
theorem Le.args(l:List AV):Le (Go.ak.vB l 0) (kx l .xH .aJ):=Le.vB l 0 _ λi hi=>by rw[MP,ac.lS,agW,aH (by grind[ac.al])];simp[hi,ac.al,Nat.add_sub_cancel,agY,getElem?_pos,ahs]
theorem YF.code{f a:Nat}{b:List iH}{body:bp}{fs as cs:List AV}{K:AV→af→Prop}(c:ab f=.code a b body)(hl:(fs++as++cs).length≤a)(h:Ru ab (vA b K) [.code body] (vB (fs++as++cs) 0) H):YF ab (.func f fs cs) as H K:=by obtain⟨n,d⟩:=h _ (Le.args (fs++as++cs));refine⟨n+1,?_⟩;simp only[Xf,gS,c];rw[aH (ahi hl)];refine Xc.mono (adW _) (λj fr H hj=>?_) d;cases j with|exit i=>exact hj|none=>exact hj|ret=>exact hj
theorem YF.gZ{f:Nat}{g:List AV→af→Option (AV×af)}{fs as cs:List AV}{v:AV}{H':af}{K:AV→af→Prop}(a:ab f=.gZ g)(hg:g (fs++as++cs) H=some (v,H'))(h:K v H'):YF ab (.func f fs cs) as H K:=by refine⟨1,?_⟩;simp_all[Xf,gS]
def xe(L:Kn):List iH→List AV→Prop
 |[],[]=>True
 |.tmp p::a,v::b=>lk L p=v∧v.bB=true∧xe L a b
 |_,_=>False
theorem xe.xf{aa:am AV}(a:Le L aa):∀{b:List iH}{c:List AV},xe L b c→gG aa H b=some c|[],[],_=>rfl|.tmp p::b,v::c,h=>by simp only[gG,xe.xf a h.2.2,ahb,a.get h.1 h.2.1]|[],_::_,h=>h.elim|.tmp _::_,[],h=>h.elim|.cell .. ::_,[],h=>h.elim|.cell .. ::_,_::_,h=>h.elim
theorem RJ.aq{j:cG}{b:List iH}{K:AV→af→Prop}{vs:List AV}(hj:j=.none∨j=.ret)(c:xe L b vs)(h:K (iu vs) H):RJ ab (vA b K) j [] L H:=λaa a=>by have:=c.xf (H:=H) a;rcases hj with rfl|rfl<;>simp only[jU,pi,jw,this]<;>exact h
theorem Ru.aq{a:List iH}{K:AV→af→Prop}{vs:List AV}(b:xe L a vs)(h:K (iu vs) H):Ru ab (vA a K) [] L H:=RJ.aq (.inl rfl) b h
theorem Ru.nS{a:List iH}{K:AV→af→Prop}{vs:List AV}{s:List SI}(b:xe L a vs)(h:K (iu vs) H):Ru ab (vA a K) (.code .ret::s) L H:=Ru.ret (RJ.vu (RJ.aq (.inr rfl) b h))
theorem Ru.aT{p:ac}{K:AV→af→Prop}{v:AV}{s:List SI}(h:K v H)(a:lk L p=v:=by(conv=>lhs;whnf)<;>rfl)(hd:v.bB=true:=by first|rfl|assumption):Ru ab (vA [.tmp p] K) (.code .ret::s) L H:=Ru.nS (vs:=[v]) ⟨a,hd,trivial⟩ h
theorem Ru.sB{p q:ac}{K:AV→af→Prop}{v w:AV}{s:List SI}(h:K (.tuple [v,w]) H)(c:lk L p=v:=by(conv=>lhs;whnf)<;>rfl)(hd:v.bB=true:=by first|rfl|assumption)(a:lk L q=w:=by(conv=>lhs;whnf)<;>rfl)(b:w.bB=true:=by first|rfl|assumption):Ru ab (vA [.tmp p,.tmp q] K) (.code .ret::s) L H:=Ru.nS (vs:=[v,w]) ⟨c,hd,a,b,trivial⟩ h
end
end Go.ak
namespace Go.ak.R
structure Kp(Q:Prop):Prop where
 q:Q
theorem au{P Q:Prop}(k:Q)(h:Kp Q→P:=by intro k;(repeat(first|refine RO.bg ?_|refine RO.jN ?_|refine RO.zt ?_|refine RO.lss ?_|refine RO.nil ?_|refine Ru.region ?_|refine Ru.seq ?_|refine Ru.block ?_|refine Ru.skip ?_|refine Ru.aF ?_|refine RO.zu ?_|refine RO.neq ?_|refine RO.zw ?_|refine RO.eql ?_|refine RO.zx ?_|refine RO.gtr ?_|refine RO.geqN ?_|refine RO.geq ?_|refine RO.zy ?_|refine RO.leq ?_|refine RO.zA ?_|refine RO.aW ?_|refine RO.fZ ?_|refine RO.extract ?_|refine RO.un ?_|refine RO.part ?_|refine RO.pE ?_|refine RO.jM ?_|refine RO.build ?_|refine RO.iG ?_|refine RO.lw ?_|refine Ru.oD ?_|refine Ru.mQ ?_|refine RO.sC ?_|refine RO.xg ?_));exact k.1):P:=h ⟨k⟩
theorem sD{P Q:Prop}(k:Q)(h:Kp Q→P:=by intro k;(repeat(first|refine RO.bg ?_|refine RO.jN ?_|refine RO.zt ?_|refine RO.lss ?_|refine RO.nil ?_|refine Ru.region ?_|refine Ru.seq ?_|refine Ru.block ?_|refine Ru.skip ?_|refine Ru.aF ?_|refine RO.zu ?_|refine RO.neq ?_|refine RO.zw ?_|refine RO.eql ?_|refine RO.zx ?_|refine RO.gtr ?_|refine RO.geqN ?_|refine RO.geq ?_|refine RO.zy ?_|refine RO.leq ?_|refine RO.zA ?_|refine RO.aW ?_|refine RO.fZ ?_|refine RO.extract ?_|refine RO.un ?_|refine RO.part ?_|refine RO.pE ?_|refine RO.jM ?_|refine RO.build ?_|refine RO.iG ?_|refine RO.lw ?_|refine Ru.oD ?_|refine Ru.mQ ?_|refine RO.sC ?_|refine RO.xg ?_|refine RO.Bm ?_|refine RO.dk ?_|refine RO.rU ?_|refine RO.zB ?_|refine RO.zC ?_));exact k.1):P:=h ⟨k⟩
theorem bz{P Q:Prop}(k:Q)(h:Kp Q→P:=by intro k;(repeat(first|refine RO.bg ?_|refine RO.jN ?_|refine RO.zt ?_|refine RO.lss ?_|refine RO.nil ?_|refine Ru.region ?_|refine Ru.seq ?_|refine Ru.block ?_|refine Ru.skip ?_|refine Ru.aF ?_|refine RO.zu ?_|refine RO.neq ?_|refine RO.zw ?_|refine RO.eql ?_|refine RO.zx ?_|refine RO.gtr ?_|refine RO.geqN ?_|refine RO.geq ?_|refine RO.zy ?_|refine RO.leq ?_|refine RO.zA ?_|refine RO.aW ?_|refine RO.fZ ?_|refine RO.extract ?_|refine RO.un ?_|refine RO.part ?_|refine RO.pE ?_|refine RO.jM ?_|refine RO.build ?_|refine RO.iG ?_|refine RO.lw ?_|refine Ru.oD ?_|refine Ru.mQ ?_|refine RO.sC ?_|refine RO.xg ?_|refine RO.Bm ?_|refine RO.dk ?_|refine RO.rU ?_|refine RO.zB ?_|refine RO.zC ?_|refine RO.gM U 0 ?_|refine RO.gM U 1 ?_|refine RO.gM U 2 ?_|refine RO.gM U 3 ?_|refine RO.gM U 4 ?_|refine RO.aW ?_ (hc:=hat _ _ rfl)|refine RO.fZ ?_ (hc:=hrd)|refine RO.il ?_|refine RO.ku ?_));exact k.1):P:=h ⟨k⟩
theorem ah{P Q:Prop}(k:Q)(h:Kp Q→P:=by intro k;(repeat(first|refine RO.bg ?_|refine RO.jN ?_|refine RO.zt ?_|refine RO.lss ?_|refine RO.nil ?_|refine Ru.region ?_|refine Ru.seq ?_|refine Ru.block ?_|refine Ru.skip ?_|refine Ru.aF ?_|refine RO.zu ?_|refine RO.neq ?_|refine RO.zw ?_|refine RO.eql ?_|refine RO.zx ?_|refine RO.gtr ?_|refine RO.geqN ?_|refine RO.geq ?_|refine RO.zy ?_|refine RO.leq ?_|refine RO.zA ?_|refine RO.aW ?_|refine RO.fZ ?_|refine RO.extract ?_|refine RO.un ?_|refine RO.part ?_|refine RO.pE ?_|refine RO.jM ?_|refine RO.build ?_|refine RO.iG ?_|refine RO.lw ?_|refine Ru.oD ?_|refine Ru.mQ ?_|refine RO.sC ?_|refine RO.xg ?_|refine RO.Bm ?_|refine RO.dk ?_|refine RO.rU ?_|refine RO.zB ?_|refine RO.zC ?_|refine RO.gM U 0 ?_|refine RO.gM U 1 ?_|refine RO.gM U 2 ?_|refine RO.gM U 3 ?_|refine RO.gM U 4 ?_|refine RO.aW ?_ (hc:=hat _ _ rfl)|refine RO.fZ ?_ (hc:=hrd)|refine RO.il ?_|refine RO.ku ?_|refine RO.nilCheck ?_|refine RO.Bn ?_|refine RO.DH ?_));exact k.1):P:=h ⟨k⟩
theorem iK{P Q:Prop}(k:Q)(h:Kp Q→P:=by intro k;(repeat(first|refine RO.bg ?_|refine RO.jN ?_|refine RO.zt ?_|refine RO.lss ?_|refine RO.nil ?_|refine Ru.skip ?_|refine Ru.aF ?_|refine RO.zu ?_|refine RO.neq ?_|refine RO.zw ?_|refine RO.eql ?_|refine RO.zx ?_|refine RO.gtr ?_|refine RO.geqN ?_|refine RO.geq ?_|refine RO.zy ?_|refine RO.leq ?_|refine RO.zA ?_|refine RO.aW ?_|refine RO.fZ ?_|refine RO.extract ?_|refine RO.un ?_|refine RO.part ?_|refine RO.pE ?_|refine RO.jM ?_|refine RO.build ?_|refine RO.iG ?_|refine RO.lw ?_|refine Ru.oD ?_|refine Ru.mQ ?_|refine RO.sC ?_|refine RO.xg ?_|refine RO.Bm ?_|refine RO.dk ?_|refine RO.rU ?_|refine RO.zB ?_|refine RO.zC ?_|refine RO.gM U 0 ?_|refine RO.gM U 1 ?_|refine RO.gM U 2 ?_|refine RO.gM U 3 ?_|refine RO.gM U 4 ?_|refine RO.aW ?_ (hc:=hat _ _ rfl)|refine RO.fZ ?_ (hc:=hrd)|refine RO.il ?_|refine RO.ku ?_|refine RO.nilCheck ?_|refine RO.Bn ?_|refine RO.DH ?_));exact k.1):P:=h ⟨k⟩
theorem qT{P Q:Prop}(k:Q)(h:Kp Q→P:=by intro k;(first|refine RO.bg ?_|refine RO.jN ?_|refine RO.zt ?_|refine RO.lss ?_|refine RO.nil ?_|refine Ru.region ?_|refine Ru.seq ?_|refine Ru.block ?_|refine Ru.skip ?_|refine Ru.aF ?_|refine RO.zu ?_|refine RO.neq ?_|refine RO.zw ?_|refine RO.eql ?_|refine RO.zx ?_|refine RO.gtr ?_|refine RO.geqN ?_|refine RO.geq ?_|refine RO.zy ?_|refine RO.leq ?_|refine RO.zA ?_|refine RO.aW ?_|refine RO.fZ ?_|refine RO.extract ?_|refine RO.un ?_|refine RO.part ?_|refine RO.pE ?_|refine RO.jM ?_|refine RO.build ?_|refine RO.iG ?_|refine RO.lw ?_|refine Ru.oD ?_|refine Ru.mQ ?_|refine RO.sC ?_|refine RO.xg ?_|refine RO.Bm ?_|refine RO.dk ?_|refine RO.rU ?_|refine RO.zB ?_|refine RO.zC ?_|refine RO.gM U 0 ?_|refine RO.gM U 1 ?_|refine RO.gM U 2 ?_|refine RO.gM U 3 ?_|refine RO.gM U 4 ?_|refine RO.aW ?_ (hc:=hat _ _ rfl)|refine RO.fZ ?_ (hc:=hrd)|refine RO.il ?_|refine RO.ku ?_|refine RO.nilCheck ?_|refine RO.Bn ?_|refine RO.DH ?_);exact k.1):P:=h ⟨k⟩
end Go.ak.R
namespace Go.ak
section
variable{ab:Nat→aE}{c:Cx}{s:List SI}{L:Kn}{H:af}{d:Option ac}{l:List aS}
theorem U4{k:Nat}{n:Int}(h:(ck k).wrap n=n):iq k n=n:=by
 unfold iq;split;·split;all_goals trivial
 ·split;·rfl
  exact h
 ·split;all_goals trivial
 trivial
theorem pP{n:Int}(h1: -9223372036854775808≤n)(h2:n<9223372036854775808):iq 3 n=n:=by cases n with|ofNat m=>rw[agL]at h2;have:aha m 9223372036854775808=true:=aiu ahF (by omega);simp only[iq,this,bm]|negSucc m=>have:aha m 9223372036854775808=true:=aiu ahF (by omega);simp[this,iq,bm]
theorem RO.bg{x:aG}{v:AV}(h:RO ab c l s (bA L d v) H)(b:aV L x=v:=by(conv=>lhs;whnf)<;>rfl)(e:v.bB=true:=by first|rfl|assumption):RO ab c (⟨d,.bg x,none,[],[]⟩::l) s L H:=RO.op (λaa a=>by simp only[aB,a.gv b e]) h
theorem RO.arith{op:BinOp}{k:Nat}{x y:aG}{a b:Int}{v:AV}(h:RO ab c l s (bA L d v) H)(f:aV L x=.int k a:=by(conv=>lhs;whnf)<;>rfl)(g:aV L y=.int k b:=by(conv=>lhs;whnf)<;>rfl)(hv:ir op k a b=some v:=by(conv=>lhs;whnf)<;>rfl):RO ab c (⟨d,.arith op k x y,none,[],[]⟩::l) s L H:=RO.op (λaa e=>by simp only[aB,e.gv f rfl,e.gv g rfl,Af,ahQ,aiq,bm,hv,ahb]) h
theorem RO.add{x y:aG}{a b:Int}(h:RO ab c l s (bA L d (.int 3 (a+b))) H)(e:aV L x=.int 3 a:=by(conv=>lhs;whnf)<;>rfl)(f:aV L y=.int 3 b:=by(conv=>lhs;whnf)<;>rfl)(h1: -9223372036854775808≤a+b:=by omega)(h2:a+b<9223372036854775808:=by omega):RO ab c (⟨d,.arith .add 3 x y,none,[],[]⟩::l) s L H:=RO.arith h e f (by simp[h1,h2,ir,pP])
theorem RO.zA{x:aG}{a b:Nat}{y:aG}(h:RO ab c l s (bA L d (.int 3 (.ofNat (a+b)))) H)(e:aV L x=.int 3 (.ofNat a):=by(conv=>lhs;whnf)<;>rfl)(f:aV L y=.int 3 (.ofNat b):=by(conv=>lhs;whnf)<;>rfl)(h2:a+b<9223372036854775808:=by omega):RO ab c (⟨d,.arith .add 3 x y,none,[],[]⟩::l) s L H:=RO.add (a:=.ofNat a) (b:=.ofNat b) h e f (by grind) (by grind)
theorem RO.sub{x y:aG}{a b:Int}(h:RO ab c l s (bA L d (.int 3 (a - b))) H)(e:aV L x=.int 3 a:=by(conv=>lhs;whnf)<;>rfl)(f:aV L y=.int 3 b:=by(conv=>lhs;whnf)<;>rfl)(h1: -9223372036854775808≤a - b:=by omega)(h2:a - b<9223372036854775808:=by omega):RO ab c (⟨d,.arith .sub 3 x y,none,[],[]⟩::l) s L H:=RO.arith h e f (by simp[h1,h2,ir,pP])
theorem RO.eql{k:Nat}{x y:aG}{a b:Int}(h:RO ab c l s (bA L d (.bool (decide (a=b)))) H)(e:aV L x=.int k a:=by(conv=>lhs;whnf)<;>rfl)(f:aV L y=.int k b:=by(conv=>lhs;whnf)<;>rfl):RO ab c (⟨d,.arith .eql k x y,none,[],[]⟩::l) s L H:=RO.arith h e f (by grind[ir,fA])
theorem RO.neq{k:Nat}{x y:aG}{a b:Int}(h:RO ab c l s (bA L d (.bool (decide (a≠b)))) H)(e:aV L x=.int k a:=by(conv=>lhs;whnf)<;>rfl)(f:aV L y=.int k b:=by(conv=>lhs;whnf)<;>rfl):RO ab c (⟨d,.arith .neq k x y,none,[],[]⟩::l) s L H:=RO.arith h e f (by simp only[ir,fA];grind)
theorem RO.lss{k:Nat}{x y:aG}{a b:Int}(h:RO ab c l s (bA L d (.bool (decide (a<b)))) H)(e:aV L x=.int k a:=by(conv=>lhs;whnf)<;>rfl)(f:aV L y=.int k b:=by(conv=>lhs;whnf)<;>rfl):RO ab c (⟨d,.arith .lss k x y,none,[],[]⟩::l) s L H:=RO.arith h e f (by simp[ir,mO])
theorem RO.leq{k:Nat}{x y:aG}{a b:Int}(h:RO ab c l s (bA L d (.bool (decide (a≤b)))) H)(e:aV L x=.int k a:=by(conv=>lhs;whnf)<;>rfl)(f:aV L y=.int k b:=by(conv=>lhs;whnf)<;>rfl):RO ab c (⟨d,.arith .leq k x y,none,[],[]⟩::l) s L H:=RO.arith h e f (by simp only[ir,mO];congr 2;grind)
theorem RO.gtr{k:Nat}{x y:aG}{a b:Int}(h:RO ab c l s (bA L d (.bool (decide (b<a)))) H)(e:aV L x=.int k a:=by(conv=>lhs;whnf)<;>rfl)(f:aV L y=.int k b:=by(conv=>lhs;whnf)<;>rfl):RO ab c (⟨d,.arith .gtr k x y,none,[],[]⟩::l) s L H:=RO.arith h e f (by simp[ir,mO])
theorem RO.geq{k:Nat}{x y:aG}{a b:Int}(h:RO ab c l s (bA L d (.bool (decide (b≤a)))) H)(e:aV L x=.int k a:=by(conv=>lhs;whnf)<;>rfl)(f:aV L y=.int k b:=by(conv=>lhs;whnf)<;>rfl):RO ab c (⟨d,.arith .geq k x y,none,[],[]⟩::l) s L H:=RO.arith h e f (by simp only[ir,mO];congr 2;grind)
theorem RO.zt{k:Nat}{x y:aG}{a b:Nat}(h:RO ab c l s (bA L d (.bool (decide (a<b)))) H)(e:aV L x=.int k (.ofNat a):=by(conv=>lhs;whnf)<;>rfl)(f:aV L y=.int k (.ofNat b):=by(conv=>lhs;whnf)<;>rfl):RO ab c (⟨d,.arith .lss k x y,none,[],[]⟩::l) s L H:=RO.lss (a:=.ofNat a) (b:=.ofNat b) (by simp_all) e f
theorem RO.zy{k:Nat}{x y:aG}{a b:Nat}(h:RO ab c l s (bA L d (.bool (decide (a≤b)))) H)(e:aV L x=.int k (.ofNat a):=by(conv=>lhs;whnf)<;>rfl)(f:aV L y=.int k (.ofNat b):=by(conv=>lhs;whnf)<;>rfl):RO ab c (⟨d,.arith .leq k x y,none,[],[]⟩::l) s L H:=RO.leq (a:=.ofNat a) (b:=.ofNat b) (by simp_all) e f
theorem RO.zx{k:Nat}{x y:aG}{a b:Nat}(h:RO ab c l s (bA L d (.bool (decide (b<a)))) H)(e:aV L x=.int k (.ofNat a):=by(conv=>lhs;whnf)<;>rfl)(f:aV L y=.int k (.ofNat b):=by(conv=>lhs;whnf)<;>rfl):RO ab c (⟨d,.arith .gtr k x y,none,[],[]⟩::l) s L H:=RO.gtr (a:=.ofNat a) (b:=.ofNat b) (by simp_all) e f
theorem RO.zw{k:Nat}{x y:aG}{a b:Nat}(h:RO ab c l s (bA L d (.bool (decide (a=b)))) H)(e:aV L x=.int k (.ofNat a):=by(conv=>lhs;whnf)<;>rfl)(f:aV L y=.int k (.ofNat b):=by(conv=>lhs;whnf)<;>rfl):RO ab c (⟨d,.arith .eql k x y,none,[],[]⟩::l) s L H:=RO.eql (a:=.ofNat a) (b:=.ofNat b) (by rw[show decide (ahI a=ahI b)=decide (a=b)from decide_eq_decide.2 ⟨λh=>Int.ofNat.inj h,λh=>congrArg _ h⟩];exact h) e f
theorem RO.zu{k:Nat}{x y:aG}{a b:Nat}(h:RO ab c l s (bA L d (.bool (decide (a≠b)))) H)(f:aV L x=.int k (.ofNat a):=by(conv=>lhs;whnf)<;>rfl)(g:aV L y=.int k (.ofNat b):=by(conv=>lhs;whnf)<;>rfl):RO ab c (⟨d,.arith .neq k x y,none,[],[]⟩::l) s L H:=RO.neq (a:=.ofNat a) (b:=.ofNat b) (by rw[show decide (ahI a≠ahI b)=decide (a≠b)from decide_eq_decide.2 ⟨λh e=>h (congrArg _ e),λh e=>h (Int.ofNat.inj e)⟩];exact h) f g
theorem RO.un{op:UnOp}{x:aG}{w v:AV}(h:RO ab c l s (bA L d v) H)(b:aV L x=w:=by(conv=>lhs;whnf)<;>rfl)(e:w.bB=true:=by first|rfl|assumption)(f:CD op w=some v:=by(conv=>lhs;whnf)<;>rfl):RO ab c (⟨d,.unary op x,none,[],[]⟩::l) s L H:=RO.op (λaa a=>by simp only[aB,a.gv b e,f,ahb]) h
theorem RO.eq{f:Bool}{e:ep}{x y:aG}{a b:AV}{t:Bool}(h:RO ab c l s (bA L d (.bool (t !=f))) H)(i:aV L x=a:=by(conv=>lhs;whnf)<;>rfl)(j:a.bB=true:=by first|rfl|assumption)(k:aV L y=b:=by(conv=>lhs;whnf)<;>rfl)(hb:b.bB=true:=by first|rfl|assumption)(ht:dZ 64 e a b=some t:=by first|assumption|rfl):RO ab c (⟨d,.eq f e x y,none,[],[]⟩::l) s L H:=RO.op (λaa g=>by simp only[aB,g.gv i j,g.gv k hb,ht,ahb]) h
theorem RO.aW{x:aG}{i:ac}{o:Nat}{v:AV}(h:RO ab c l s (bA L d v) H)(hx:aV L x=.aw i o:=by(conv=>lhs;whnf)<;>rfl)(hc:bh H i o=some v:=by assumption):RO ab c (⟨d,.aW x,none,[],[]⟩::l) s L H:=RO.op (λaa a=>jm (a.gv hx rfl) hc) h
theorem RO.fZ{n:Nat}{x:aG}{i:ac}{o:Nat}{b:List AV}(h:RO ab c l s (bA L d (.agg b)) H)(hx:aV L x=.aw i o:=by(conv=>lhs;whnf)<;>rfl)(hc:fj H i o n=some b:=by assumption):RO ab c (⟨d,.fZ n x,none,[],[]⟩::l) s L H:=RO.op (λaa a=>by simp only[aB,a.gv hx rfl,ja,hc,bm,ahb]) h
theorem RO.store{n:Nat}{a x:aG}{i:ac}{o:Nat}{v:AV}{H':af}(e:iI H i o v.cells=some H')(h:RO ab c l s (bA L d .aiw) H')(f:aV L a=.aw i o:=by(conv=>lhs;whnf)<;>rfl)(g:aV L x=v:=by(conv=>lhs;whnf)<;>rfl)(j:v.bB=true:=by first|rfl|assumption)(k:v.cells.length=n:=by rfl):RO ab c (⟨d,.store n a x,none,[],[]⟩::l) s L H:=RO.op (λaa b=>by simp only[aB,b.gv f rfl,b.gv g j,k,bm,e]) h
theorem RO.dk{size:Nat}{x y:aG}{i:ac}{o n b j k:Nat}{e:Bool}(h:RO ab c l s (bA L d (.aw i (o+j*size))) H)(f:aV L x=.slice i o n b e:=by(conv=>lhs;whnf)<;>rfl)(g:aV L y=.int k (.ofNat j):=by(conv=>lhs;whnf)<;>rfl)(hj:j<n:=by omega):RO ab c (⟨d,.dk size x y,none,[],[]⟩::l) s L H:=RO.op (λaa a=>by have:aha j n=true:=aiu ahF hj;simp only[aB,a.gv f rfl,a.gv g rfl,this,bm]) h
theorem RO.jM{off:Nat}{x:aG}{i:ac}{o:Nat}(h:RO ab c l s (bA L d (.aw i (o+off))) H)(b:aV L x=.aw i o:=by(conv=>lhs;whnf)<;>rfl):RO ab c (⟨d,.jM off x,none,[],[]⟩::l) s L H:=RO.op (λaa a=>by simp only[aB,a.gv b rfl]) h
theorem RO.part{agg:Bool}{off size:Nat}{x:aG}{b:List AV}{v:AV}(h:RO ab c l s (bA L d v) H)(e:aV L x=.agg b:=by(conv=>lhs;whnf)<;>rfl)(f:tu agg b off size=some v:=by(conv=>lhs;whnf)<;>rfl):RO ab c (⟨d,.part agg off size x,none,[],[]⟩::l) s L H:=RO.op (λaa a=>by simp only[aB,a.gv e rfl,f,ahb]) h
theorem RO.extract{x:aG}{i:Nat}{b:List AV}{v:AV}(h:RO ab c l s (bA L d v) H)(e:aV L x=.tuple b:=by(conv=>lhs;whnf)<;>rfl)(f:pH b i=some v:=by(conv=>lhs;whnf)<;>rfl):RO ab c (⟨d,.extract x i,none,[],[]⟩::l) s L H:=RO.op (λaa a=>by simp only[aB,a.gv e rfl,f,ahb]) h
def lenOf:AV→Option Nat
 |.slice _ _ n _ _=>some n
 |.aP=>some 0
 |_=>none
theorem RO.jN{x:aG}{v:AV}{n:Nat}(h:RO ab c l s (bA L d (.int 3 (.ofNat n))) H)(b:aV L x=v:=by(conv=>lhs;whnf)<;>rfl)(e:lenOf v=some n:=by first|rfl|assumption):RO ab c (⟨d,.jN x,none,[],[]⟩::l) s L H:=RO.op (λaa a=>by
 have hd:v.bB=true:=by cases v<;>first|rfl|cases e
 simp only[aB,a.gv b hd];grind[lenOf,acm,reduceCtorEq]) h
theorem RO.box{e:Nat}{x:aG}{v:AV}(h:RO ab c l s (bA L d (.aw H.next 0)) (H.new (.cells (cM v.cells) v.cells.length e true [] 0)))(b:aV L x=v:=by(conv=>lhs;whnf)<;>rfl)(f:v.bB=true:=by first|rfl|assumption)(g:dI v.cells=true:=by rfl):RO ab c (⟨d,.box e x,none,[],[]⟩::l) s L H:=RO.op (λaa a=>by simp only[aB,a.gv b f,g,bm]) h
theorem RO.alloc{e:Nat}{a:List AV}(h:RO ab c l s (bA L d (.aw H.next 0)) (H.new (.cells (cM a) a.length e true [] 0))):RO ab c (⟨d,.alloc e a,none,[],[]⟩::l) s L H:=RO.op (λaa b=>by rfl) h
def pQ(L:Kn)(l:List AV):List (Nat×Nat×aG)→Option (List AV)
 |[]=>some l
 |(off,size,x)::a=>
  let b:=(aV L x).cells
  if(aV L x).bB&&decide (b.length=size)then(match tw l off b with|some c=>pQ L c a|none=>none)else none
theorem G3{aa:am AV}(a:Le L aa):∀{f:List (Nat×Nat×aG)}{c d:List AV},pQ L c f=some d→nI aa c f=some d
 |[],c,d,h=>by trivial
 |(off,size,x)::i,c,d,h=>by
  simp only[pQ]at h;split at h
  ·rename_i g;have b:=g;simp only[agM]at b;have e:=a.gv (x:=x) rfl b.1;simp only[nI];rw[e,aH g];split at h;·rename_i h2;rw[h2];exact G3 a h
   grind
  grind
theorem RO.build{a vs:List AV}{b:List (Nat×Nat×aG)}(h:RO ab c l s (bA L d (.agg vs)) H)(hl:pQ L a b=some vs:=by(conv=>lhs;whnf)<;>rfl):RO ab c (⟨d,.build a b,none,[],[]⟩::l) s L H:=RO.op (λaa e=>by grind[aB,G3]) h
theorem RO.buildSlice{e n:Nat}{b vs:List AV}{f:List (Nat×Nat×aG)}(h:RO ab c l s (bA L d (.slice H.next 0 n n true)) (H.new (.cells (cM vs) vs.length e true [] 0)))(hl:pQ L (fx b n) f=some vs:=by(conv=>lhs;whnf)<;>rfl)(g:dI vs=true:=by rfl):RO ab c (⟨d,.buildSlice e n b f,none,[],[]⟩::l) s L H:=RO.op (λaa a=>by simp only[aB,G3 a hl,g,bm]) h
theorem RO.iG{f:Nat}{a b:List aG}{g bv:List AV}(h:RO ab c l s (bA L d (.func f g bv)) H)(j:a.map (aV L)=g:=by rfl)(i:g.all AV.bB=true:=by rfl)(hb:b.map (aV L)=bv:=by rfl)(k:bv.all AV.bB=true:=by rfl):RO ab c (⟨d,.iG f a b,none,[],[]⟩::l) s L H:=RO.op (λaa m=>by
 have e:∀{a:List aG}{g:List AV},a.map (aV L)=g→g.all AV.bB=true→a.map (gv aa)=g:=λ{a g}j i=>by subst j;exact ahZ λx n=>m.gv rfl (ah1.1 i _ (ag5 n))
 simp[e,j,i,hb,k,aB]) h
theorem RO.j7(h:RO ab c l s (bA L d (.map H.next)) (H.new (.map [] 0))):RO ab c (⟨d,.j7,none,[],[]⟩::l) s L H:=RO.op (λaa a=>by rfl) h
theorem RO.lw{t:Nat}{x:aG}{v:AV}(h:RO ab c l s (bA L d (.iface t v)) H)(b:aV L x=v:=by(conv=>lhs;whnf)<;>rfl)(e:v.bB=true:=by first|rfl|assumption):RO ab c (⟨d,.lw t x,none,[],[]⟩::l) s L H:=RO.op (λaa a=>by simp only[aB,a.gv b e]) h
theorem RO.jr{e bytes size:Nat}{b:List AV}{x y:aG}{n k:Nat}(h:RO ab c l s (bA L d (.slice H.next 0 n k true)) (H.new (.cells (cM (fx b k)) (k*size) e true [] 0)))(f:aV L x=.int 3 (.ofNat n):=by(conv=>lhs;whnf)<;>rfl)(g:aV L y=.int 3 (.ofNat k):=by(conv=>lhs;whnf)<;>rfl)(i:n≤k:=by omega)(hb:k*bytes≤70368744177664:=by omega)(j:k≤70368744177664:=by omega):RO ab c (⟨d,.jr e bytes size b x y,none,[],[]⟩::l) s L H:=RO.op (λaa a=>by
 have h1:(ahG n k&&fc (k*bytes)&&fc k)=true:=by simp only[fc,agM];exact⟨⟨ahi i,ahi hb⟩,ahi j⟩
 simp only[aB,a.gv f rfl,a.gv g rfl,h1,bm]) h
theorem RO.append{e bytes size:Nat}{j:List AV}{x y:aG}{b f:AV}{n:Nat}{i:List AV}{r:AV×af}(k:iS H size f=some (n,i))(m:kw e bytes size H b n i=some r)(h:RO ab c l s (bA L d r.1) r.2)(o:aV L x=b:=by(conv=>lhs;whnf)<;>rfl)(hs:b.bB=true:=by first|rfl|assumption)(p:aV L y=f:=by(conv=>lhs;whnf)<;>rfl)(g:f.bB=true:=by first|rfl|assumption):RO ab c (⟨d,.append e bytes size j false x y,none,[],[]⟩::l) s L H:=RO.op (λaa a=>by simp only[aB,ac6,bK,a.gv o hs,a.gv p g,k,m]) h
theorem RO.nilCheck{x:aG}{v:AV}(h:RO ab c l s (bA L d v) H)(e:aV L x=v:=by(conv=>lhs;whnf)<;>rfl)(b:(match v with|.aw .. |.func .. |.yield _|.iface .. |.map _|.slice .. =>true|_=>false)=true:=by first|rfl|assumption):RO ab c (⟨d,.nilCheck x,none,[],[]⟩::l) s L H:=RO.op (λaa a=>by
 have hd:v.bB=true:=by cases v<;>first|rfl|cases b
 simp only[aB,a.gv e hd];cases v<;>first|rfl|cases b) h
theorem RO.pF{a:Bool}{f:List aG}{v r:AV}{b:List AV}(h:RO ab c l s (bA L d r) H)(j:f.map (aV L)=v::b:=by rfl)(hd:(v::b).all AV.bB=true:=by first|rfl|assumption)(hr:yw a v b=some r:=by(conv=>lhs;whnf)<;>rfl):RO ab c (⟨d,.pF a f,none,[],[]⟩::l) s L H:=RO.op (λaa g=>by
 have e:f.map (gv aa)=v::b:=by rw[←j];refine ahZ λx i=>g.gv rfl ?_;rw[←j]at hd;exact ah1.1 hd _ (ag5 i)
 simp[e,hr,aB,ahb]) h
def lD(L:Kn)(x:Option aG)(d y:Nat):Option Nat:=
 match x with
 |some x=>nJ (aV L x) y
 |none=>some d
theorem zD{aa:am AV}(a:Le L aa){x:Option aG}{d y n:Nat}(h:lD L x d y=some n):ji aa x d y=some n:=by cases x with|none=>exact h|some x=>simp only[lD]at h;simp only[ji];rw[a.gv (x:=x) rfl (by cases hg:aV L x<;>rw[hg]at h<;>first|rfl|cases h)];exact h
theorem RO.gR{e size:Nat}{x:aG}{lo hi g:Option aG}{i:ac}{o n j:Nat}{ex:Bool}{a b m:Nat}(k:aV L x=.slice i o n j ex)(p:lD L g j j=some m)(hb:lD L hi n m=some b)(q:lD L lo 0 b=some a)(he:(ex||g.isSome||lo.isNone||rX H i e)=true)(h:RO ab c l s (bA L d (.slice i (if ex&&decide (m=a)then o else o+a*size) (b - a) (m - a) (ex||g.isSome))) H):RO ab c (⟨d,.gR e size x lo hi g,none,[],[]⟩::l) s L H:=RO.op (λaa f=>by simp only[aB,f.gv k rfl,zD f p,zD f hb,zD f q,adO,ah5,he,bm]) h
theorem RO.Bo{e size:Nat}{x:aG}{lo hi g:Option aG}{a b m:Nat}(i:aV L x=.aP)(j:lD L g 0 0=some m)(hb:lD L hi 0 m=some b)(k:lD L lo 0 b=some a)(h:RO ab c l s (bA L d .aP) H):RO ab c (⟨d,.gR e size x lo hi g,none,[],[]⟩::l) s L H:=RO.op (λaa f=>by simp only[aB,f.gv i rfl,zD f j,zD f hb,zD f k,adO,ah5]) h
theorem RO.lu{k m:Nat}{x:aG}{a:Int}(h:RO ab c l s (bA L d (.int k (iq k a))) H)(e:aV L x=.int m a:=by(conv=>lhs;whnf)<;>rfl):RO ab c (⟨d,.lu k x,none,[],[]⟩::l) s L H:=RO.op (λaa b=>by simp only[aB,b.gv e rfl]) h
theorem RO.copy{size:Nat}{x y:aG}{i:ac}{o n g:Nat}{ex:Bool}{b:AV}{m:Nat}{f:List AV}{H':af}(j:aV L x=.slice i o n g ex)(k:aV L y=b)(e:b.bB=true)(p:iS H size b=some (m,f))(q:min m n≠0)(r:iI H i o (f.take (min m n*size))=some H')(h:RO ab c l s (bA L d (.int 3 (.ofNat (min m n)))) H'):RO ab c (⟨d,.copy size x y,none,[],[]⟩::l) s L H:=RO.op (λaa a=>by simp only[aB,a.gv j rfl,a.gv k e,p,an q,r]) h
theorem RO.MQ{size:Nat}{x y:aG}{xv b:AV}{m:Nat}{f:List AV}(g:aV L x=xv)(i:aV L y=b)(e:b.bB=true)(j:iS H size b=some (m,f))(k:∃n,lenOf xv=some n∧min m n=0)(h:RO ab c l s (bA L d (.int 3 (.ofNat 0))) H):RO ab c (⟨d,.copy size x y,none,[],[]⟩::l) s L H:=RO.op (λaa a=>by
 obtain⟨n,h1,h2⟩:=k;have hd:xv.bB=true:=by cases xv<;>first|rfl|cases h1
 simp only[aB,a.gv g hd,a.gv i e,j];cases xv<;>simp only[lenOf,acm,reduceCtorEq]at h1;all_goals grind) h
theorem RO.typeAssert{t u:Nat}{zero:AV}{x:aG}{v:AV}(b:aV L x=.iface u v)(hu:agQ u t=true)(h:RO ab c l s (bA L d v) H):RO ab c (⟨d,.typeAssert t zero false x,none,[],[]⟩::l) s L H:=RO.op (λaa a=>by simp only[aB,a.gv b rfl,hu,bm,ac6,bK]) h
theorem RO.il{op:BinOp}{x y:aG}{a b:AV}{v:AV}(h:RO ab c l s (bA L d v) H)(f:aV L x=a:=by(conv=>lhs;whnf)<;>rfl)(g:a.bB=true:=by first|rfl|assumption)(i:aV L y=b:=by(conv=>lhs;whnf)<;>rfl)(hb:b.bB=true:=by first|rfl|assumption)(j:Ag op a b=some v:=by(conv=>lhs;whnf)<;>rfl):RO ab c (⟨d,.il op x y,none,[],[]⟩::l) s L H:=RO.op (λaa e=>by simp only[aB,e.gv f g,e.gv i hb,j,ahb]) h
theorem RO.ku{x:aG}{t:List Nat}(h:RO ab c l s (bA L d (.int 3 (.ofNat t.length))) H)(b:aV L x=.aC t:=by(conv=>lhs;whnf)<;>rfl):RO ab c (⟨d,.ku x,none,[],[]⟩::l) s L H:=RO.op (λaa a=>by simp only[aB,a.gv b rfl]) h
theorem RO.xg{op:bO}{g:ac}{w b:Bool}{hd:List ac}{re:List i9}(h:RO ab c l s (bA L d .aiw) H)(hg:aV L (.t g)=.bool b:=by(conv=>lhs;whnf)<;>rfl)(hb:b≠w:=by decide):RO ab c (⟨d,op,some (g,w),hd,re⟩::l) s L H:=λaa a=>by obtain⟨n,f⟩:=h _ (a.set d .aiw);refine⟨n+1,?_⟩;have e:aa.get .aiw g=.bool b:=a.get hg rfl;simp[hb,e,f,Xo,Go.ak.az,ft,lA,ac6,bK,AV.bB,bm]
theorem RO.sC{op:bO}{g:ac}{w:Bool}{hd:List ac}{re:List i9}(h:RO ab c (⟨d,op,none,hd,re⟩::l) s L H)(hg:aV L (.t g)=.bool w:=by(conv=>lhs;whnf)<;>rfl):RO ab c (⟨d,op,some (g,w),hd,re⟩::l) s L H:=λaa a=>by obtain⟨n,b⟩:=h aa a;refine⟨n,?_⟩;have e:aa.get .aiw g=.bool w:=a.get hg rfl;cases n with|zero=>trivial|succ n=>simp_all[Xo,Go.ak.az,ft,beq_self_eq_true,bm]
end
section
theorem xi{c:am AV}{n:Nat}:∀{l:List AV}{o:Nat},o+l.length≤n→(∀i(h:i<l.length),c.bq .aiw (o+i)=l[i])→ip c n o l.length=some l
 |[],o,_,_=>by rfl
 |z::l,o,h,hg=>by
  simp only[ahh,ip];have h0:c.bq .aiw o=z:=hg 0 (by simp);have a:o<n:=by simp at h;omega
  have b:=xi (c:=c) (n:=n) (l:=l) (o:=o+1) (by simp at h;omega) (λi hi=>by have:=hg (i+1) (by simpa using hi);rw[show o+(i+1)=o+1+i by omega]at this;simpa using this);grind
def Sl(H:af)(size:Nat)(vs:List AV)(n:Nat)(sv:AV):Prop:=
 (sv=.aP∧n=0∧vs=[])∨∃i o cap ex c m e rw aK fz,sv=.slice i o n cap ex∧H.get i=.cells c m e rw aK fz∧o+n*size≤m∧vs.length=n*size∧(∀j(h:j<vs.length),c.bq .aiw (o+j)=vs[j])∧i.al<H.next.al∧n≤cap
variable{H H':af}{size n e bytes:Nat}{vs ws:List AV}{sv:AV}
theorem Sl.length(h:Sl H size vs n sv):vs.length=n*size:=by rcases h with⟨_,rfl,rfl⟩|⟨_,_,_,_,_,_,_,_,_,_,_,_,_,h,_⟩;all_goals grind
theorem Sl.bB(h:Sl H size vs n sv):sv.bB=true:=by rcases h with⟨rfl,_⟩|⟨_,_,_,_,_,_,_,_,_,_,rfl,_⟩<;>rfl
theorem Sl.dQ(h:Sl H size vs n sv):sv.dQ=true:=by rcases h with⟨rfl,_⟩|⟨_,_,_,_,_,_,_,_,_,_,rfl,_⟩<;>rfl
theorem Sl.cells(h:Sl H size vs n sv):sv.cells=[sv]:=by rcases h with⟨rfl,_⟩|⟨_,_,_,_,_,_,_,_,_,_,rfl,_⟩<;>rfl
theorem Sl.len(h:Sl H size vs n sv):lenOf sv=some n:=by rcases h with⟨rfl,rfl,_⟩|⟨_,_,_,_,_,_,_,_,_,_,rfl,_⟩<;>rfl
theorem Sl.iS(h:Sl H size vs n sv):iS H size sv=some (n,vs):=by rcases h with⟨rfl,rfl,rfl⟩|⟨i,o,cap,ex,c,m,e,a,aK,fz,rfl,hg,b,hl,d,_⟩;all_goals grind[xi,Go.ak.iS,fj]
theorem Sl.frame(h:Sl H size vs n sv)(g:H.next.al≤H'.next.al)(k:∀j:ac,j.al<H.next.al→H'.get j=H.get j):Sl H' size vs n sv:=by
 rcases h with h|⟨i,o,cap,ex,c,m,e,b,aK,fz,h1,hg,d,hl,f,hi,a⟩;·exact .inl h
 exact .inr ⟨i,o,cap,ex,c,m,e,b,aK,fz,h1,by grind,d,hl,f,by omega,a⟩
theorem Sl.at(h:Sl H size vs n sv)(g:0<n):∃i o cap ex,sv=.slice i o n cap ex∧n≤cap∧i.al<H.next.al∧(∀j(hj:j<vs.length),bh H i (o+j)=some vs[j])∧∀j k,(j+k)≤vs.length→fj H i (o+j) k=some ((vs.drop j).take k):=by
 rcases h with⟨_,rfl,_⟩|⟨i,o,cap,ex,c,m,e,d,aK,fz,h1,hg,l,hl,b,hi,a⟩;·omega
 refine⟨i,o,cap,ex,h1,a,hi,λj hj=>?_,λj k f=>?_⟩;·have hb:aha (o+j) m=true:=aiu ahF (by omega);simp[hg,hb,b,hj,bh,bm]
 grind[xi,ahl,aih,ah3,aid,fj]
def dK(H:af)(fp:List ac)(e size:Nat)(vs:List AV)(n:Nat)(full:Bool)(sv:AV):Prop:=
 (fp=[]∧vs=[]∧n=0∧sv=.aP)∨
 ∃i c aK cap ex,fp=i::aK∧sv=.slice i 0 n cap ex∧H.get i=.cells c (cap*size) e true aK 0∧n≤cap∧vs.length=n*size∧(∀j(h:j<vs.length),c.bq .aiw j=vs[j])∧(∀p∈fp,p.al<H.next.al)∧(full=true→ex=true∨n=cap)
variable{fp:List ac}{full:Bool}
theorem dK.sl(h:dK H fp e size vs n full sv):Sl H size vs n sv:=by
 rcases h with⟨_,rfl,rfl,rfl⟩|⟨i,c,aK,cap,ex,rfl,rfl,hg,a,hl,d,b,_⟩;·exact .inl ⟨rfl,rfl,rfl⟩
 refine .inr ⟨i,0,cap,ex,c,_,e,true,aK,0,rfl,hg,?_,hl,λj hj=>by grind,b i (adc ..),a⟩;simp[a,agW,ahf]
theorem dK.frame(h:dK H fp e size vs n full sv)(f:H.next.al≤H'.next.al)(l:∀j∈fp,H'.get j=H.get j):dK H' fp e size vs n full sv:=by
 rcases h with h|⟨i,c,aK,cap,ex,rfl,rfl,hg,b,hl,g,k,a⟩;·exact .inl h
 exact .inr ⟨i,c,aK,cap,ex,rfl,rfl,by grind,b,hl,g,λp d=>ag6 (k p d) f,a⟩
structure bf(H H':af):Prop where
 nx:H.next.al≤H'.next.al
 dJ:∀j:ac,j.al<H.next.al→H'.get j=H.get j
theorem bf.refl(H:af):bf H H:=⟨adW _,λ_ _=>rfl⟩
theorem bf.trans{A B C:af}(h:bf A B)(k:bf B C):bf A C:=⟨ahY h.nx k.nx,λj hj=>(k.dJ j (ag6 hj h.nx)).trans (h.dJ j hj)⟩
theorem af.mT(H:af)(o:b9):(H.new o).next.al=H.next.al+1:=ac.gz _
theorem bf.new(H:af)(o:b9):bf H (H.new o):=⟨by rw[af.mT];omega,λj hj=>by rw[af.dt,an (cr (by omega))]⟩
theorem bf.sl(h:bf H H')(k:Sl H size vs n sv):Sl H' size vs n sv:=k.frame h.nx h.dJ
theorem bf.bh(h:bf H H'){i:ac}(hi:i.al<H.next.al)(o:Nat):bh H' i o=Go.ak.bh H i o:=pg (h.dJ i hi) o
theorem dK.below(h:dK H fp e size vs n full sv):∀j∈fp,j.al<H.next.al:=by rcases h with⟨rfl,_⟩|⟨_,_,_,_,_,_,_,_,_,_,_,a,_⟩;all_goals grind
theorem G4:∀{l:List AV},dI l=true↔∀v∈l,v.dQ=true|[]=>by trivial|a::l=>by simp[dI,G4 (l:=l)]
theorem vC{n:Nat}(h:n≤70368744177664):fc n=true:=ahi h
theorem zE{l:List AV}{j:Nat}(h:j<l.length):(cM l).bq .aiw j=l[j]:=by simp[h,pa,agY]
theorem dK.new{vs:List AV}(b:vs.length=n*size)(ex full:Bool):dK (H.new (.cells (cM vs) (n*size) e true [] 0)) [H.next] e size vs n full (.slice H.next 0 n n ex):=.inr ⟨H.next,cM vs,[],n,ex,rfl,rfl,by rw[af.dt,aH rfl],adW _,b,λj hj=>zE hj,λp a=>by rw[ac3]at a;subst a;rw[af.mT];omega,λ_=>.inr rfl⟩
theorem dK.append(h:dK H fp e size vs n true sv){k:Nat}(r:ws.length=k*size)(h1:dI ws=true)(hb:(n+k)*bytes≤70368744177664)(hs:n+k≤70368744177664):∃t H' fp',kw e bytes size H sv k ws=some (t,H')∧dK H' fp' e size (vs++ws) (n+k) true t∧H.next.al≤H'.next.al∧(∀j∈fp',j∈fp∨(H.next.al≤j.al∧j.al<H'.next.al))∧∀j:ac,j∉fp→j.al<H.next.al→H'.get j=H.get j:=by
 rcases h with⟨rfl,rfl,rfl,rfl⟩|⟨i,c,aK,cap,ex,rfl,rfl,hg,g,hl,w,v,a⟩
 ·by_cases s:k=0;·subst s;have l:ws=[]:=ahp (by omega);subst l;refine⟨.aP,H,[],by simp[kw,dI],.inl ⟨rfl,rfl,rfl,rfl⟩,adW _,λj hj=>(by cases hj),λ_ _ _=>rfl⟩
  have m:agQ k 0=false:=by cases h:agQ k 0 with|false=>rfl|true=>exact absurd (agO h) s
  refine⟨.slice H.next 0 k k false,H.new (.cells (cM ws) (k*size) e true [] 0),[H.next],?_,?_,?_,?_,?_⟩;·rw[agW]at hb hs;simp only[kw,h1,ag9,ac6,bK,m,vC hb,vC hs,aiq,bm]
  ·rw[agW];exact dK.new r false true
  ·exact(bf.new H _).nx
  ·intro j hj;rw[ac3]at hj;subst hj;right;rw[af.mT];omega
  intro j _ hj;exact(bf.new H _).dJ j hj
 by_cases b:n+k≤cap
 ·have d:ahG (n+k) cap=true:=ahi b;by_cases s:k=0
  ·subst s;have l:ws=[]:=ahp (by omega);subst l;refine⟨.slice i 0 (n+0) cap ex,H,i::aK,?_,?_,adW _,λj hj=>.inl hj,λ_ _ _=>rfl⟩;·simp only[kw,h1,ag9,ac6,bK,d,bm,ahQ]
   exact .inr ⟨i,c,aK,cap,ex,rfl,rfl,hg,g,by simpa using hl,by simpa using w,v,a⟩
  have m:agQ k 0=false:=by cases h:agQ k 0 with|false=>rfl|true=>exact absurd (agO h) s
  have z:n*size+ws.length≤cap*size:=by rw[r,←aig];exact ahf _ b
  have x:iI H i (0+n*size) ws=some ((H.fL aK).set i (.cells (fD c (0+n*size) ws) (cap*size) e true [] 0)):=by
   have hd:(decide (0≤0+n*size)&&decide (0+n*size+ws.length≤cap*size)&&dI ws)=true:=by simp only[agM,decide_eq_true_eq,h1,and_true];omega
   simp only[iI,hg,hd,bm]
  refine⟨.slice i 0 (n+k) cap ex,(H.fL aK).set i (.cells (fD c (0+n*size) ws) (cap*size) e true [] 0),[i],by simp only[kw,h1,ag9,ac6,bK,d,bm,m,x],?_,?_,?_,?_⟩
  ·refine .inr ⟨i,fD c (0+n*size) ws,[],cap,ex,rfl,rfl,by rw[af.aD,aH rfl],b,by rw[agP,hl,r,aig],λj hj=>?_,λp f=>?_,λA=>?_⟩
   ·rw[mL];rw[agP]at hj;by_cases o:j<vs.length;·rw[an (by omega),w j o,List.getElem_append_left o]
    rw[aH (by omega),List.getElem_append_right (by omega)];have:j - (0+n*size)<ws.length:=by omega
    simp only[agY,this,getElem?_pos,ahs];congr 1;omega
   ·rw[ac3]at f;subst f;rw[af.fR,af.jS];exact v _ (adc ..)
   rcases a A with h|h;·exact .inl h
   right;omega
  ·rw[af.fR,af.jS];exact adW _
  ·intro j hj;rw[ac3]at hj;subst hj;exact .inl (adc ..)
  intro j hj _;rw[af.aD,an λe:j=i=>hj (by rw[e];exact adc ..),af.wE,an λe=>hj (adD _ e)]
 have d:ahG (n+k) cap=false:=by cases h:ahG (n+k) cap with|false=>rfl|true=>exact absurd (agT h) b
 have hrd:ip c (cap*size) 0 (n*size)=some vs:=by have:=xi (c:=c) (n:=cap*size) (l:=vs) (o:=0) (by rw[agW,hl];exact ahf _ g) (λj hj=>by rw[agW];exact w j hj);rw[hl]at this;exact this
 have u:(!(fc ((n+k)*bytes)&&fc (n+k)))=false:=by rw[vC hb,vC hs];rfl
 cases ex with
 |true=>
  refine⟨.slice H.next 0 (n+k) (n+k) false,H.new (.cells (cM (vs++ws)) ((n+k)*size) e true [] 0),[H.next],by simp only[kw,h1,ag9,ac6,bK,d,u,hg,hrd,bm],?_,(bf.new H _).nx,?_,λj _ hj=>(bf.new H _).dJ j hj⟩;·exact dK.new (by rw[agP,hl,r,aig]) false true
  intro j hj;rw[ac3]at hj;subst hj;right;rw[af.mT];omega
 |false=>
  have y:n=cap:=by rcases a rfl with h|h;cases h;exact h
  subst y;have q:(true&&agQ n n&&agQ (0+n*size) (n*size)&&agQ e e&&ahG 0 (n*size))=true:=by simp[ahQ]
  have B:i.al<H.next.al:=v i (adc ..);refine⟨.slice H.next 0 (n+k) (n+k) false,(H.set i (.cells c (n*size) e false aK 0)).new (.cells (cM (vs++ws)) ((n+k)*size) e true (i::aK) 0),H.next::i::aK,by simp only[kw,h1,ag9,ac6,bK,d,u,hg,hrd,q,bm],?_,?_,?_,?_⟩
  ·refine .inr ⟨H.next,cM (vs++ws),i::aK,n+k,false,rfl,rfl,by rw[af.dt,af.fR,aH rfl],adW _,by rw[agP,hl,r,aig],λj hj=>zE hj,λp f=>?_,λ_=>.inr rfl⟩;rw[af.mT,af.fR];rcases adC.1 f with e|e;·subst e;omega
   have:=v p e;omega
  ·rw[af.mT,af.fR];omega
  ·intro j hj;rcases adC.1 hj with e|e;·subst e;right;rw[af.mT,af.fR];omega
   exact .inl e
  intro j hj o;rw[af.dt,af.fR,an (cr (by omega)),af.aD,an λe:j=i=>hj (by rw[e];exact adc ..)]
theorem RO.U5{ab:Nat→aE}{c:Cx}{s:List SI}{L:Kn}{d:Option ac}{l:List aS}{g:List AV}{x y:aG}{b:AV}{k:Nat}(f:dK H fp e size vs n true sv)(hs:Sl H size ws k b)(h1:dI ws=true)(h:∀a H' fp',dK H' fp' e size (vs++ws) (n+k) true a→H.next.al≤H'.next.al→(∀j∈fp',j∈fp∨(H.next.al≤j.al∧j.al<H'.next.al))→(∀j:ac,j∉fp→j.al<H.next.al→H'.get j=H.get j)→RO ab c l s (bA L d a) H')(i:aV L x=sv:=by(conv=>lhs;whnf)<;>rfl)(m:aV L y=b:=by(conv=>lhs;whnf)<;>rfl)(hb:(n+k)*bytes≤70368744177664:=by omega)(o:n+k≤70368744177664:=by omega):RO ab c (⟨d,.append e bytes size g false x y,none,[],[]⟩::l) s L H:=by obtain⟨a,H',fp',h2,h3,p,q,r⟩:=f.append (bytes:=bytes) hs.length h1 hb o;exact RO.append hs.iS h2 (h a H' fp' h3 p q r) i f.sl.bB m hs.bB
end
section
variable{ab:Nat→aE}{c:Cx}{s:List SI}{L:Kn}{H:af}{d:Option ac}{l:List aS}
abbrev aI(z:Int):AV:=.int 3 z
abbrev aN(n:Nat):AV:=.int 3 (.ofNat n)
theorem ri(l:List Int):dI (l.map aI)=true:=G4.2 λv a=>by obtain⟨z,_,rfl⟩:=ag3.1 a;rfl
abbrev iy(H:af)(l:List Int)(a:AV):Prop:=Sl H 1 (l.map aI) l.length a
theorem RO.U6{a:List Int}{b:AV}{x y:aG}{j k:Nat}(hs:iy H a b)(h:∀i o z,a[j]?=some z→bh H i o=some (aI z)→i.al<H.next.al→RO ab c l s (bA L d (.aw i o)) H)(f:aV L x=b:=by(conv=>lhs;whnf)<;>rfl)(g:aV L y=.int k (.ofNat j):=by(conv=>lhs;whnf)<;>rfl)(hj:j<a.length:=by omega):RO ab c (⟨d,.dk 1 x y,none,[],[]⟩::l) s L H:=by obtain⟨i,o,m,e,rfl,h1,h2,h3,n⟩:=hs.at (by omega);refine RO.dk (h i (o+j*1) a[j] (getElem?_pos a j hj) ?_ h2) f g hj;grind
theorem RO.DI{op:bO}{hd:List ac}{re:List i9}{v:AV}{H':af}(g:∀f a,op≠.call f a)(e:∀a,op≠.lx a)(he:∀aa,Le L aa→∃H1,aB op aa (eM aa H hd).1=some (v,H1)∧d8 H1 (eM aa H hd).2=H')(i:∀aa,Le (bA L d v) aa→fh aa H' re=true)(h:RO ab c l s (bA L d v) H'):RO ab c (⟨d,op,none,hd,re⟩::l) s L H:=λaa b=>by obtain⟨n,j⟩:=h _ (b.set d v);obtain⟨H1,h1,h2⟩:=he aa b;have h3:=i _ (b.set d v);refine⟨n+1,?_⟩;cases op<;>first|exact absurd rfl (g _ _)|exact absurd rfl (e _)|(simp only[Xo,Go.ak.az,ft,bm,h1,h2,h3];exact j)
theorem RO.G5{d:Option ac}{f:aG}{args:List aG}{l:List aS}{re:List i9}{fv:AV}{b:List AV}(h:YF ab fv b H λv H'=>(∀aa,Le (bA L d v) aa→fh aa H' re=true)∧RO ab c l s (bA L d v) H')(o:aV L f=fv:=by(conv=>lhs;whnf)<;>rfl)(g:fv.bB=true:=by first|rfl|assumption)(p:args.map (aV L)=b:=by rfl)(i:b.all AV.bB=true:=by first|rfl|assumption):RO ab c (⟨d,.call f args,none,[],re⟩::l) s L H:=λaa a=>by
 obtain⟨n,q⟩:=h;have j:args.map (gv aa)=b:=by subst p;refine ahZ λx r=>?_;exact a.gv rfl (ah1.1 i _ (ag5 r))
 obtain⟨m,e⟩:=(zr ab n).call (K:=λm v H'=>fh (aM aa d v) H' re=true∧Xo ab m l ⟨aM aa d v,c.M,c.R⟩ H' (jU ab c.K s .none)) (λm t v H e h=>⟨h.1,h.2.mono e λ_ _ h=>h⟩) ((mono ab n).call (adW _) (λv H' k=>by obtain⟨m,e⟩:=k.2 _ (a.set d v);exact⟨m,k.1 _ (a.set d v),e⟩) q);refine⟨max n m+1,?_⟩;simp only[Xo,Go.ak.az,ft,eM,d8,bm];rw[a.gv o g,j];refine(show Xf ab n fv b H _ from e).mono (Nat.le_max_left ..) λv H' h=>?_;rw[aH h.1];exact(show Xo ab m l _ H' _ from h.2).mono (Nat.le_max_right ..) λ_ _ h=>h
end
section
variable{A B C H H':af}{size n e bytes cap:Nat}{vs ws:List AV}{sv:AV}{fp fp' f a b c:List ac}{full ex:Bool}{i:ac}
structure nT(fp fp':List ac)(H H':af):Prop where
 nx:H.next.al≤H'.next.al
 hd:∀j∈fp',j∈fp∨H.next.al≤j.al
 dJ:∀j:ac,j∉fp→j.al<H.next.al→H'.get j=H.get j
def sE(A:af)(fp:List ac):Prop:=∀j∈fp,A.next.al≤j.al
theorem nT.cV(h:nT fp fp' H H')(hg:bf A H)(a:sE A fp):bf A H':=⟨ahY hg.nx h.nx,λj hj=>by rw[h.dJ j (λe=>by have:=a j e;omega) (ag6 hj hg.nx)];exact hg.dJ j hj⟩
theorem nT.G6(h:nT fp fp' H H')(hg:bf A H)(a:sE A fp):sE A fp':=λj hj=>by
 rcases h.hd j hj with e|e;·exact a j e
 have:=hg.nx;omega
theorem nT.refl(fp:List ac)(H:af):nT fp fp H H:=⟨adW _,λ_ hj=>.inl hj,λ_ _ _=>rfl⟩
theorem dK.vD(h:dK H fp e size vs n full (.slice i 0 n cap ex)){o:Nat}{us:List AV}(v:o+ws.length≤cap*size)(h1:dI ws=true)(hl:us.length=vs.length)(hu:∀j,j<vs.length→us[j]?=if o≤j∧j<o+ws.length then ws[j - o]? else vs[j]?):∃H',iI H i o ws=some H'∧nT fp [i] H H'∧dK H' [i] e size us n full (.slice i 0 n cap ex):=by
 rcases h with⟨_,_,_,h⟩|⟨w,c,aK,q,u,rfl,h2,hg,l,m,r,s,d⟩;·cases h
 injection h2 with h2 _ _ h3 t;subst h2;subst h3;subst t;have hd:(decide (0≤o)&&decide (o+ws.length≤cap*size)&&dI ws)=true:=by simp only[agM,decide_eq_true_eq,h1,and_true];omega
 refine⟨(H.fL aK).set i (.cells (fD c o ws) (cap*size) e true [] 0),by simp only[iI,hg,hd,bm],⟨Nat.le_of_eq (by rw[af.fR,af.jS]),λj hj=>?_,λj hj x=>?_⟩,?_⟩;·rw[ac3]at hj;subst hj;exact .inl (adc ..)
 ·rw[af.aD,an λe:j=i=>hj (by rw[e];exact adc ..),af.wE,an λe=>hj (adD _ e)]
 refine .inr ⟨i,fD c o ws,[],cap,ex,rfl,rfl,by rw[af.aD,aH rfl],l,hl.trans m,λj hj=>?_,λp k=>?_,d⟩
 ·have a:j<vs.length:=by omega
  have:=hu j a;rw[getElem?_pos us j hj]at this;rw[mL];split;·rename_i b;rw[aH b,getElem?_pos ws _ (by omega)]at this;injection this with this;simp only[agY];rw[getElem?_pos ws _ (by omega)];simp[this]
  rename_i b;rw[an b,getElem?_pos vs _ a]at this;injection this with this;rw[r j a,this]
 rw[ac3]at k;subst k;rw[af.fR,af.jS];exact s _ (adc ..)
theorem dK.mem(h:dK H fp e size vs n full (.slice i 0 n cap ex)):i∈fp∧n≤cap∧i.al<H.next.al:=by rcases h with⟨_,_,_,h⟩|⟨l,c,aK,b,j,rfl,h2,hg,d,k,m,o,a⟩;all_goals grind
theorem dK.uj(h:dK H fp e size vs n full sv)(l:n≠0):∃i cap ex,sv=.slice i 0 n cap ex:=by rcases h with⟨_,_,h,_⟩|⟨m,c,aK,b,j,rfl,h2,hg,d,k,o,p,a⟩;all_goals grind
variable{l:List (Int×Int)}
variable{ab:Nat→aE}{g:Cx}{s:List SI}{L:Kn}{d:Option ac}{az:List aS}
end
section
variable{ab:Nat→aE}{c:Cx}{s:List SI}{L:Kn}{H H' A:af}{d:Option ac}{l:List aS}{size n e:Nat}{vs ws:List AV}{sv:AV}{fp fp':List ac}
theorem RO.cX{q:ac}{p:Prop} [Decidable p](h1:p→RO ab c l s ((q,.bool true)::L) H)(h2:¬p→RO ab c l s ((q,.bool false)::L) H):RO ab c l s ((q,.bool (decide p))::L) H:=by by_cases a:p;all_goals grind
theorem RO.pR{q:ac}{t:Bool}(h1:t=true→RO ab c l s ((q,.bool true)::L) H)(h2:t=false→RO ab c l s ((q,.bool false)::L) H):RO ab c l s ((q,.bool t)::L) H:=by cases t with|true=>grind|false=>grind
theorem sF{k b y:Nat}(h:b≤y):nJ (.int k (.ofNat b)) y=some b:=by simp[h,nJ,ahi,bm]
theorem RO.U7{x y:aG}{b k:Nat}(hs:Sl H size vs n sv)(h:∀a,Sl H size (vs.take (b*size)) b a→RO ab c l s (bA L d a) H)(g:aV L x=sv:=by(conv=>lhs;whnf)<;>rfl)(p:aV L y=.int k (.ofNat b):=by(conv=>lhs;whnf)<;>rfl)(hb:b≤n:=by omega):RO ab c (⟨d,.gR e size x none (some y) none,none,[],[]⟩::l) s L H:=by
 rcases hs with⟨rfl,rfl,rfl⟩|⟨i,o,cap,ex,r,m,t,f,aK,fz,rfl,hg,v,hl,u,hi,q⟩
 ·have:b=0:=by omega
  subst this;refine RO.Bo (m:=0) (b:=0) (a:=0) g rfl ?_ rfl (h _ (.inl ⟨rfl,rfl,by simp⟩));simp only[lD,p];rfl
 refine RO.gR (m:=cap) (b:=b) (a:=0) g rfl ?_ rfl (by simp) ?_;·simp only[lD,p];exact sF (by omega)
 have e1:(if ex&&decide (cap=0)then o else o+0*size)=o:=by split<;>omega
 rw[e1,aip,aip];have co:b*size≤n*size:=ahf _ hb;refine h _ (.inr ⟨i,o,cap,_,r,m,t,f,aK,fz,rfl,hg,by omega,?_,λj hj=>?_,hi,by omega⟩);·rw[ahl];omega
 rw[ahl]at hj;rw[u j (by omega)];simp
variable{q:ac}{v w:AV}
theorem RO.U8{f:List AV}(h:∀H' a fp',dK H' fp' e size [] 0 true a→bf H H'→sE H fp'→RO ab c l s (bA L d a) H'):RO ab c (⟨d,.buildSlice e 0 f [],none,[],[]⟩::l) s L H:=by refine RO.buildSlice (vs:=[]) ?_ rfl rfl;have b:dK (H.new (.cells (cM []) (0*size) e true [] 0)) [H.next] e size [] 0 true (.slice H.next 0 0 0 true):=dK.new (vs:=[]) (by simp) true true;rw[Nat.zero_mul]at b;exact h _ _ _ b (bf.new H _) (λj hj=>by grind)
theorem RO.U9{x y:aG}{b:AV}{k bytes:Nat}{f:List AV}(g:dK H fp e size vs n true sv)(hs:Sl H size ws k b)(h1:dI ws=true)(h:∀a H' fp',dK H' fp' e size (vs++ws) (n+k) true a→nT fp fp' H H'→RO ab c l s (bA L d a) H')(i:aV L x=sv:=by(conv=>lhs;whnf)<;>rfl)(m:aV L y=b:=by(conv=>lhs;whnf)<;>rfl)(hb:(n+k)*bytes≤70368744177664:=by omega)(o:n+k≤70368744177664:=by omega):RO ab c (⟨d,.append e bytes size f false x y,none,[],[]⟩::l) s L H:=RO.U5 g hs h1 (λa H' fp' h2 h3 p q=>h a H' fp' h2 ⟨h3,λj hj=>(p j hj).imp id λh=>h.1,q⟩) i m hb o
theorem RO.G7{e size:Nat}{x:aG}{lo hi f:Option aG}{i:ac}{o n g:Nat}{ex:Bool}{a b m:Nat}{v:AV}(j:aV L x=.slice i o n g ex)(k:lD L f g g=some m)(hb:lD L hi n m=some b)(p:lD L lo 0 b=some a)(he:(ex||f.isSome||lo.isNone||rX H i e)=true)(q:AV.slice i (if ex&&decide (m=a)then o else o+a*size) (b - a) (m - a) (ex||f.isSome)=v)(h:RO ab c l s (bA L d v) H):RO ab c (⟨d,.gR e size x lo hi f,none,[],[]⟩::l) s L H:=by grind[RO.gR]
end
section
variable{ab:Nat→aE}{c:Cx}{s:List SI}{L:Kn}{H H' A:af}{d:Option ac}{l:List aS}{size n e k cap bytes:Nat}{vs ws:List AV}{sv:AV}{fp fp':List ac}{full ex:Bool}{i:ac}
end
section
variable{ab:Nat→aE}{c:Cx}{s:List SI}{L:Kn}{H:af}{d:Option ac}{l:List aS}
theorem RO.zB{x a b:aG}{v:AV}(h:RO ab c l s (bA L d v) H)(f:aV L x=.bool true:=by(conv=>lhs;whnf)<;>rfl)(g:aV L a=v:=by(conv=>lhs;whnf)<;>rfl)(i:v.bB=true:=by first|rfl|assumption):RO ab c (⟨d,.pick x a b,none,[],[]⟩::l) s L H:=RO.op (λaa e=>by simp only[aB,e.gv f rfl,e.gv g i,bm]) h
theorem RO.zC{x a b:aG}{v:AV}(h:RO ab c l s (bA L d v) H)(f:aV L x=.bool false:=by(conv=>lhs;whnf)<;>rfl)(hb:aV L b=v:=by(conv=>lhs;whnf)<;>rfl)(g:v.bB=true:=by first|rfl|assumption):RO ab c (⟨d,.pick x a b,none,[],[]⟩::l) s L H:=RO.op (λaa e=>by simp only[aB,e.gv f rfl,e.gv hb g,ac6,bK]) h
theorem RO.Bm{op:bO}{g:ac}{w:Bool}{hd:List ac}{re:List i9}(h:RO ab c l s (bA L d .aiw) H)(hg:aV L (.t g)=.tuple []:=by(conv=>lhs;whnf)<;>rfl):RO ab c (⟨d,op,some (g,w),hd,re⟩::l) s L H:=λaa a=>by obtain⟨n,b⟩:=h _ (a.set d .aiw);refine⟨n+1,?_⟩;have e:aa.get .aiw g=.tuple []:=a.get hg rfl;simp[e,b,Xo,Go.ak.az,ft,lA,ac6,bK,AV.bB,bm]
theorem ad{v:AV}{l:List AV}(h:v.bB=true)(h2:l.all AV.bB=true):(v::l).all AV.bB=true:=by grind
theorem RO.cl{f:aG}{args:List aG}{fv:AV}{a:List AV}(h:YF ab fv a H λv H'=>RO ab c l s (bA L d v) H')(g:aV L f=fv:=by(conv=>lhs;whnf)<;>rfl)(b:fv.bB=true:=by first|rfl|assumption)(ha:args.map (aV L)=a:=by rfl)(e:a.all AV.bB=true:=by repeat first|rfl|assumption|(refine ad ?_ ?_)):RO ab c (⟨d,.call f args,none,[],[]⟩::l) s L H:=RO.call h g b ha e
theorem nU{k:Nat}(h:1≤k)(a:k<1000000):ir .sub 3 (.ofNat k) (.ofNat 1)=some (.int 3 (.ofNat (k - 1))):=by grind[ir,pP]
theorem bE{a:Type}{l:List a}{k:Nat}(h:k<l.length)(d:a):l.getD k d=l[k]:=by grind
theorem YF.nJ{f:Nat}{fs as cs:List AV}{K:AV→af→Prop}(h:YF ab (.func f fs cs) as H K):YF ab (.func f [] cs) (fs++as) H K:=by obtain⟨n,h⟩:=h;refine⟨n,?_⟩;cases n with|zero=>trivial|succ n=>trivial
end
section
structure Th where
 P:af→List ac→Prop
 fr:∀{H H':af}{fp:List ac},P H fp→H.next.al≤H'.next.al→(∀j∈fp,H'.get j=H.get j)→P H' fp
 lt:∀{H:af}{fp:List ac},P H fp→∀j∈fp,j.al<H.next.al
def Fs(A H:af):List (List ac)→List Th→Prop
 |[],[]=>True
 |fp::fs,t::ts=>t.P H fp∧sE A fp∧(∀j∈fp,∀f∈fs,j∉f)∧Fs A H fs ts
 |_,_=>False
def ai(A H:af)(ts:List Th):Prop:=bf A H∧∃fs,Fs A H fs ts
variable{A B H H' c:af}{fs:List (List ac)}{ts us:List Th}{t t':Th}{fp fp':List ac}
theorem Fs.lt:∀{fs:List (List ac)}{ts:List Th},Fs A H fs ts→∀f∈fs,∀j∈f,j.al<H.next.al
 |[],[],_,f,a=>by grind
 |fp::fs,t::ts,⟨h1,_,_,b⟩,f,a=>by
  rcases adC.1 a with rfl|a;·exact t.lt h1
  exact Fs.lt b f a
 |[],_::_,h,_,_=>h.elim
 |_::_,[],h,_,_=>h.elim
theorem Fs.ge:∀{fs:List (List ac)}{ts:List Th},Fs A H fs ts→∀f∈fs,sE A f
 |[],[],_,f,a=>by grind
 |fp::fs,t::ts,⟨_,h2,_,b⟩,f,a=>by
  rcases adC.1 a with rfl|a;·omega
  exact Fs.ge b f a
 |[],_::_,h,_,_=>h.elim
 |_::_,[],h,_,_=>h.elim
theorem Fs.sA(a:H.next.al≤H'.next.al):∀{fs:List (List ac)}{ts:List Th},Fs A H fs ts→(∀f∈fs,∀j∈f,H'.get j=H.get j)→Fs A H' fs ts|[],[],_,_=>trivial|_::_,t::_,⟨h1,h2,h3,b⟩,hg=>⟨t.fr h1 a (hg _ (adc ..)),h2,h3,Fs.sA a b λf d=>hg f (adD _ d)⟩|[],_::_,h,_=>h.elim|_::_,[],h,_=>h.elim
theorem Fs.jV(hg:bf A H)(hu:nT fp fp' H H'):∀{fs:List (List ac)}{ts:List Th}{i:Nat},Fs A H fs ts→ts[i]?=some t→fs[i]?=some fp→t'.P H' fp'→∃b,Fs A H' b (ts.set i t')∧∀f∈b,f=fp'∨f∈fs
 |[],[],i,_,h,_,_=>by grind
 |[],_::_,_,h,_,_,_=>h.elim
 |_::_,[],_,h,_,_,_=>h.elim
 |l::fs,t0::ts,0,⟨h1,h2,h3,d⟩,k,a,m=>by
  simp only[List.getElem?_cons_zero,acm]at k a;subst a;refine⟨fp'::fs,⟨m,hu.G6 hg h2,λj hj f a e=>?_,Fs.sA hu.nx d λf a j hj=>hu.dJ j (λe=>h3 j e f a hj) (Fs.lt d f a j hj)⟩,λf a=>(adC.1 a).imp id λh=>adD _ h⟩;rcases hu.hd j hj with h|h;·grind
  have:=Fs.lt d f a j e;omega
 |l::fs,t0::ts,i+1,⟨h1,h2,h3,d⟩,k,a,m=>by
  simp only[ahK]at k a;have o:=List.mem_of_getElem? a;have n:=t0.lt h1;have g:∀j∈l,j∉fp:=λj hj=>h3 j hj fp o;obtain⟨b,p,q⟩:=Fs.jV hg hu d k a m;refine⟨l::b,⟨t0.fr h1 hu.nx λj hj=>hu.dJ j (g j hj) (n j hj),h2,λj hj f a e=>?_,p⟩,λf a=>?_⟩
  ·rcases q f a with rfl|h;·rcases hu.hd j e with h|h;all_goals grind
   grind
  grind
theorem Fs.at:∀{fs:List (List ac)}{ts:List Th}{i:Nat},Fs A H fs ts→ts[i]?=some t→∃fp,fs[i]?=some fp∧t.P H fp|[],[],i,_,h=>by grind|[],_::_,_,h,_=>h.elim|_::_,[],_,h,_=>h.elim|b::fs,t0::ts,0,⟨h1,_,_,_⟩,a=>by grind|b::fs,t0::ts,i+1,⟨_,_,_,d⟩,a=>by obtain⟨fp,e,h⟩:=Fs.at d a;grind
theorem ai.jV(U:ai A H ts)(i:Nat)(hi:ts[i]?=some t):∃fp,t.P H fp∧sE A fp∧∀{H':af}{fp':List ac}{t':Th},nT fp fp' H H'→t'.P H' fp'→ai A H' (ts.set i t'):=by obtain⟨hg,fs,a⟩:=U;obtain⟨fp,e,h⟩:=a.at hi;refine⟨fp,h,a.ge fp (List.mem_of_getElem? e),λhu b=>⟨hu.cV hg (a.ge fp (List.mem_of_getElem? e)),?_⟩⟩;obtain⟨d,h1,_⟩:=a.jV hg hu hi e b;grind
theorem ai.gr(U:ai A H ts):bf A H:=U.1
theorem ai.nil(hg:bf A H):ai A H []:=⟨hg,[],trivial⟩
theorem ai.push(U:ai A H ts)(hg:bf H H')(h:t.P H' fp)(d:sE H fp):ai A H' (t::ts):=by obtain⟨g,fs,a⟩:=U;refine⟨g.trans hg,fp::fs,h,λj hj=>ahY g.nx (d j hj),λj hj f b e=>?_,Fs.sA hg.nx a λf b j hj=>hg.dJ j (a.lt f b j hj)⟩;have:=a.lt f b j e;have:=d j hj;omega
theorem ai.cV(U:ai A H ts)(hg:bf H H'):ai A H' ts:=by obtain⟨b,fs,a⟩:=U;exact⟨b.trans hg,fs,Fs.sA hg.nx a λf d j hj=>hg.dJ j (a.lt f d j hj)⟩
theorem ai.tail(U:ai A H (t::ts)):ai A H ts:=by obtain⟨a,fs,b⟩:=U;cases fs with|nil=>trivial|cons f fs=>exact⟨a,fs,b.2.2.2⟩
theorem ai.fF(U:ai A H ts):∀{us:List Th},ai H H' us→ai A H' (us++ts)
 |us,o=>by
  obtain⟨hg,fs,p⟩:=o;have h0:=U.cV hg;induction us generalizing fs with
  |nil=>grind
  |cons t us i=>
   cases fs with
   |nil=>trivial
   |cons f fs=>
    obtain⟨h1,h2,h3,d⟩:=p;obtain⟨l,m,a⟩:=U;have key:∀{us:List Th}{fs:List (List ac)},Fs H H' fs us→∃ks,Fs A H' ks (us++ts)∧∀k∈ks,k∈fs∨k∈m:=by
     intro us;induction us with
     |nil=>intro fs _;exact⟨m,Fs.sA hg.nx a λf q j hj=>hg.dJ j (a.lt f q j hj),λk b=>.inr b⟩
     |cons t us i=>
      intro fs h;cases fs with
      |nil=>exact h.elim
      |cons f fs=>
       obtain⟨h1,h2,h3,d⟩:=h;obtain⟨ks,g,n⟩:=i d;refine⟨f::ks,⟨h1,λj hj=>ahY l.nx (h2 j hj),λj hj k b e=>?_,g⟩,λk b=>?_⟩
       ·rcases n k b with h|h;·exact h3 j hj k h e
        have:=a.lt k h j e;have:=h2 j hj;omega
       rcases adC.1 b with rfl|h;·exact .inl (adc ..)
       exact(n k h).imp (adD _) id
    obtain⟨ks,g,_⟩:=key (us:=t::us) (fs:=f::fs) ⟨h1,h2,h3,d⟩;exact⟨l.trans hg,ks,g⟩
theorem ai.bS(U:ai A H ts)(a:H'.next=H.next)(hg:∀j,H'.get j=H.get j):ai A H' ts:=U.cV ⟨by grind,λj _=>hg j⟩
theorem ai.cW(H:af):ai H H []:=ai.nil (bf.refl H)
theorem Fs.MR:∀{fs:List (List ac)}{ts:List Th}{i:Nat},Fs A H fs ts→ts[i]?=some t→∃fp a,t.P H fp∧sE A fp∧Fs A H a (ts.eraseIdx i)∧(∀g∈a,g∈fs)∧fp∈fs∧∀j∈fp,∀g∈a,j∉g|[],[],i,_,h=>by grind|[],_::_,_,h,_=>h.elim|_::_,[],_,h,_=>h.elim|b::fs,t0::ts,0,⟨h1,h2,h3,d⟩,f=>by grind[List.getElem?_cons_zero,acm,adD,adc]|b::fs,t0::ts,i+1,⟨h1,h2,h3,d⟩,f=>by obtain⟨fp,a,k,l,m,n,o,p⟩:=Fs.MR d f;refine⟨fp,b::a,k,l,⟨h1,h2,λj hj g hg=>h3 j hj g (n g hg),m⟩,λg hg=>?_,adD _ o,λj hj g hg e=>?_⟩;all_goals grind
theorem ai.fO(U:ai A H ts)(i:Nat)(hi:ts[i]?=some t):ai A H (t::ts.eraseIdx i):=by obtain⟨a,fs,b⟩:=U;obtain⟨fp,d,e,f,g,_,_,h⟩:=b.MR hi;exact⟨a,fp::d,e,f,h,g⟩
theorem ai.get(U:ai A H ts)(i:Nat)(hi:ts[i]?=some t):∃fp,t.P H fp:=by obtain⟨fp,h,_⟩:=U.jV i hi;grind
theorem ai.as(U:ai A H ts)(i:Nat)(hi:ts[i]?=some t)(h:∀fp,t.P H fp→t'.P H fp):ai A H (ts.set i t'):=by obtain⟨fp,h1,_,h2⟩:=U.jV i hi;grind[nT.refl]
theorem ai.MS(U:ai A H ts)(hg:bf B A):ai B H ts:=by
 obtain⟨b,fs,a⟩:=U;refine⟨hg.trans b,fs,?_⟩;induction fs generalizing ts with
 |nil=>cases ts with|nil=>trivial|cons _ _=>trivial
 |cons f fs d=>cases ts with|nil=>trivial|cons t ts=>exact⟨a.1,λj hj=>ahY hg.nx (a.2.1 j hj),a.2.2.1,d a.2.2.2⟩
theorem Fs.cO(h:ts.Perm us):∀{fs:List (List ac)},Fs A H fs ts→∃d,Fs A H d us∧∀g,g∈d↔g∈fs:=by
 induction h with
 |nil=>grind
 |cons t _ m=>intro fs h;cases fs with|nil=>trivial|cons f fs=>obtain⟨h1,h2,h3,e⟩:=h;obtain⟨d,n,o⟩:=m e;exact⟨f::d,⟨h1,h2,λj hj g hg=>h3 j hj g ((o g).1 hg),n⟩,λg=>by grind⟩
 |swap a b l=>intro fs h;cases fs with|nil=>trivial|cons f fs=>cases fs with|nil=>exact h.2.2.2.elim|cons g fs=>obtain⟨h1,h2,h3,e,p,u,q⟩:=h;refine⟨g::f::fs,⟨e,p,λj hj k i=>?_,h1,h2,λj hj k i=>h3 j hj k (adD _ i),q⟩,λk=>by grind⟩;grind
 |trans _ _ r s=>grind
theorem ai.cO(U:ai A H ts)(h:ts.Perm us):ai A H us:=by obtain⟨a,fs,b⟩:=U;obtain⟨d,e,_⟩:=b.cO h;exact⟨a,d,e⟩
theorem ai.gC{xs:List Th}(U:ai A H (xs++ts++us)):ai A H (ts++(xs++us)):=by have:=U.cO (ahD.append_right us);grind
theorem ai.lE{xs:List Th}(U:ai A H (ts++(xs++us))):ai A H (xs++ts++us):=by rw[←agJ]at U;exact U.cO (ahD.append_right us)
theorem ai.DJ(U:ai A H (t::ts++us)):ai A H (ts++t::us):=U.cO ag1.symm
theorem ai.vE(U:ai A H (ts++t::us)):ai A H (t::ts++us):=U.cO ag1
theorem Fs.sub(h:us.Sublist ts):∀{fs:List (List ac)},Fs A H fs ts→∃b,Fs A H b us∧∀g∈b,g∈fs:=by
 induction h with
 |slnil=>grind
 |cons a _ d=>intro fs h;cases fs with|nil=>trivial|cons f fs=>obtain⟨b,k,i⟩:=d h.2.2.2;grind
 |cons_cons a _ d=>intro fs h;cases fs with|nil=>trivial|cons f fs=>obtain⟨h1,h2,h3,l⟩:=h;obtain⟨b,k,i⟩:=d l;exact⟨f::b,⟨h1,h2,λj hj g hg=>h3 j hj g (i g hg),k⟩,λg hg=>(adC.1 hg).elim (λe=>e▸adc ..) λh=>adD _ (i g h)⟩
theorem ai.sub(U:ai A H ts)(h:us.Sublist ts):ai A H us:=by obtain⟨a,fs,b⟩:=U;obtain⟨d,e,_⟩:=b.sub h;exact⟨a,d,e⟩
theorem ai.skip{a:List Th}(U:ai A H (ts++a++us)):ai A H (ts++us):=by rw[agJ]at U;exact U.sub ((List.sublist_append_right a us).append_left ts)
end
section
def tS(e size:Nat)(vs:List AV)(n:Nat)(full:Bool)(sv:AV):Th where
 P H fp:=dK H fp e size vs n full sv
 fr h a hg:=h.frame a hg
 lt h:=h.below
def tB(e:Nat)(q:ac)(vs:List AV):Th where
 P H fp:=q∈fp∧(∀j∈fp,j=q)∧∃c,H.get q=.cells c vs.length e true [] 0∧(∀j(h:j<vs.length),c.bq .aiw j=vs[j])∧q.al<H.next.al
 fr h b hg:=by
  obtain⟨h1,h2,c,h3,d,a⟩:=h
  exact⟨h1,h2,c,by rw[hg _ h1];exact h3,d,ag6 a b⟩
 lt h:=by
  obtain⟨_,h2,c,_,_,a⟩:=h
  intro j hj;rw[h2 j hj];exact a
variable{A H H':af}{ts us:List Th}{e size n o m i k bytes:Nat}{vs ws:List AV}{sv v w:AV}{full ex:Bool}{q:ac}{cap:Nat}{fp:List ac}
variable{ab:Nat→aE}{c:Cx}{s:List SI}{L:Kn}{d:Option ac}{l:List aS}
theorem ao{v:AV}{l:List AV}(h:v.dQ=true)(h2:dI l=true):dI (v::l)=true:=by simp[h,h2,dI,aiq]
theorem dK.MT(h:dK H fp e size vs n full (.slice q 0 n cap ex))(b:vs[o]?=some v):bh H q o=some v:=by
 obtain⟨a,e1⟩:=ahv.1 b;have c:0<n:=by
  have:=h.sl.length;rcases Nat.eq_zero_or_pos n with e|e;·subst e;simp at this;rw[this]at a;simp at a
  exact e
 obtain⟨i,f,g,j,d,_,_,hat,_⟩:=h.sl.at c;grind
theorem tB.cell{fp:List ac}(h:(tB e q vs).P H fp)(b:vs[o]?=some v):bh H q o=some v:=by obtain⟨_,_,c,h3,d,_⟩:=h;obtain⟨a,e1⟩:=ahv.1 b;simp only[bh,h3,show aha o vs.length=true from aiu ahF a,bm,d o a,e1]
theorem tB.pj{fp:List ac}(h:(tB e q vs).P H fp)(a:o+m≤vs.length):fj H q o m=some ((vs.drop o).take m):=by obtain⟨_,_,c,h3,b,_⟩:=h;grind[xi,ahl,aih,aid,fj]
def sp(vs:List AV)(o:Nat)(ws:List AV):List AV:=vs.take o++(ws++vs.drop (o+ws.length))
theorem G8(h:o+ws.length≤vs.length):(sp vs o ws).length=vs.length:=by simp[sp];omega
theorem MU(h:o+ws.length≤vs.length)(j:Nat):(sp vs o ws)[j]?=if o≤j∧j<o+ws.length then ws[j - o]? else vs[j]?:=by unfold sp;grind
theorem U'(h:o<vs.length):sp vs o [w]=vs.set o w:=by
 apply List.ext_getElem?;intro j;rw[MU (by simp;omega),List.getElem?_set];simp only[ahj];by_cases hj:o=j;·subst hj;rw[aH (by omega),aH rfl,aH h];simp
 rw[an (by omega),an hj]
theorem tB.vD{fp:List ac}(h:(tB e q vs).P H fp)(a:o+ws.length≤vs.length)(h1:dI ws=true):∃H' fp',iI H q o ws=some H'∧nT fp fp' H H'∧(tB e q (sp vs o ws)).P H' fp':=by
 obtain⟨d,h2,c,h3,f,g⟩:=h;have hd:(decide (0≤o)&&decide (o+ws.length≤vs.length)&&dI ws)=true:=by simp only[agM,decide_eq_true_eq,h1,and_true];omega
 refine⟨(H.fL []).set q (.cells (fD c o ws) vs.length e true [] 0),[q],by simp only[iI,h3,hd,bm],⟨Nat.le_of_eq (by rw[af.fR];rfl),λj hj=>?_,λj hj i=>?_⟩,ac3.2 rfl,λj hj=>ac3.1 hj,fD c o ws,?_,λj hj=>?_,by rw[af.fR];exact g⟩;·rw[ac3]at hj;subst hj;exact .inl d
 ·rw[af.aD,an λe:j=q=>hj (by rw[e];exact d)];rfl
 ·rw[af.aD,aH rfl,G8 a]
 rw[G8 a]at hj;rw[mL];have:=MU a j;rw[getElem?_pos (sp vs o ws) j (by rw[G8 a];exact hj)]at this;split;·rename_i b;rw[aH b,getElem?_pos ws _ (by omega)]at this;injection this with this;simp only[agY];rw[getElem?_pos ws _ (by omega)];simp[this]
 rename_i b;rw[an b,getElem?_pos vs _ hj]at this;injection this with this;rw[f j hj,this]
theorem RO.gM(U:ai A H ts)(i:Nat){x:aG}(h:RO ab c l s (bA L d v) H)(a:aV L x=.aw q o:=by(conv=>lhs;whnf)<;>rfl)(hi:ts[i]?=some (tB e q vs):=by rfl)(hv:vs[o]?=some v:=by rfl):RO ab c (⟨d,.aW x,none,[],[]⟩::l) s L H:=by obtain⟨fp,b⟩:=U.get i hi;grind[RO.aW,tB.cell]
theorem RO.eG(U:ai A H ts)(i:Nat){x:aG}(h:RO ab c l s (bA L d (.agg ((vs.drop o).take m))) H)(a:aV L x=.aw q o:=by(conv=>lhs;whnf)<;>rfl)(hi:ts[i]?=some (tB e q vs):=by rfl)(hm:o+m≤vs.length:=by first|decide|exact agT rfl|simp|omega):RO ab c (⟨d,.fZ m x,none,[],[]⟩::l) s L H:=by obtain⟨fp,b⟩:=U.get i hi;grind[RO.fZ,tB.pj]
theorem RO.eH(U:ai A H ts)(i:Nat){x:aG}(h:RO ab c l s (bA L d v) H)(a:aV L x=.aw q o:=by(conv=>lhs;whnf)<;>rfl)(hi:ts[i]?=some (tS e size vs n full (.slice q 0 n cap ex)):=by rfl)(hv:vs[o]?=some v:=by rfl):RO ab c (⟨d,.aW x,none,[],[]⟩::l) s L H:=by obtain⟨fp,b⟩:=U.get i hi;exact RO.aW h a (dK.MT b hv)
theorem RO.fU(U:ai A H ts)(i:Nat){a x:aG}(h:∀H',ai A H' (ts.set i (tB e q (vs.set o w)))→RO ab c l s (bA L d .aiw) H')(b:aV L a=.aw q o:=by(conv=>lhs;whnf)<;>rfl)(f:aV L x=w:=by(conv=>lhs;whnf)<;>rfl)(hi:ts[i]?=some (tB e q vs):=by rfl)(g:o<vs.length:=by first|decide|exact agT rfl|simp|omega)(j:w.dQ=true:=by first|rfl|assumption)(k:w.cells=[w]:=by first|rfl|assumption)(hd:w.bB=true:=by first|rfl|assumption):RO ab c (⟨d,.store 1 a x,none,[],[]⟩::l) s L H:=by obtain⟨fp,m,_,hu⟩:=U.jV i hi;grind[tB.vD,ahj,dI,U',RO.store]
theorem RO.iL(U:ai A H ts)(i:Nat){a x:aG}(h:∀H',ai A H' (ts.set i (tB e q (sp vs o ws)))→RO ab c l s (bA L d .aiw) H')(b:aV L a=.aw q o:=by(conv=>lhs;whnf)<;>rfl)(f:aV L x=.agg ws:=by(conv=>lhs;whnf)<;>rfl)(hi:ts[i]?=some (tB e q vs):=by rfl)(g:o+ws.length≤vs.length:=by first|decide|exact agT rfl|simp|omega)(j:ws.length=n:=by first|rfl|simp)(k:dI ws=true:=by repeat first|rfl|assumption|(refine ao ?_ ?_)):RO ab c (⟨d,.store n a x,none,[],[]⟩::l) s L H:=by obtain⟨fp,m,_,hu⟩:=U.jV i hi;obtain⟨H',fp',h1,h2,h3⟩:=tB.vD (ws:=ws) m g k;exact RO.store (v:=.agg ws) h1 (h H' (hu h2 h3)) b f rfl j
theorem MV.set{b:Type}{f:b→AV}{a:List b}(h:dK H fp e 1 (a.map f) a.length full (.slice q 0 a.length cap ex))(c:k<a.length)(z:b)(h1:(f z).dQ=true):∃H',iI H q (0+k*1) [f z]=some H'∧nT fp [q] H H'∧dK H' [q] e 1 ((a.set k z).map f) (a.set k z).length full (.slice q 0 (a.set k z).length cap ex):=by
 have d:=(dK.mem h).2.1;have:=dK.vD h (o:=0+k*1) (ws:=[f z]) (us:=(a.set k z).map f) (by simp;omega) (by simp[dI,h1]) (by simp) λj hj=>by
  simp only[agZ]at hj;simp only[ahc,List.getElem?_set,ahj];by_cases e:k=j;·subst e;rw[aH rfl,aH (by omega)];simp[c]
  rw[an e,an (by omega)]
 grind
theorem RO.ml{b:Type}{f:b→AV}{zs:List b}(U:ai A H ts)(i:Nat)(z:b)(g:zs.length=n){a x:aG}(h:∀H',ai A H' (ts.set i (tS e 1 ((zs.set k z).map f) n full (.slice q 0 n cap ex)))→RO ab c l s (bA L d .aiw) H')(j:aV L a=.aw q (0+k*1):=by(conv=>lhs;whnf)<;>rfl)(m:aV L x=f z:=by(conv=>lhs;whnf)<;>rfl)(hi:ts[i]?=some (tS e 1 (zs.map f) n full (.slice q 0 n cap ex)):=by rfl)(ho:k<zs.length:=by first|omega|assumption)(o:(f z).dQ=true:=by first|rfl|assumption)(r:(f z).cells=[f z]:=by first|rfl|assumption)(hd:(f z).bB=true:=by first|rfl|assumption):RO ab c (⟨d,.store 1 a x,none,[],[]⟩::l) s L H:=by subst g;obtain⟨fp,p,_,hu⟩:=U.jV i hi;obtain⟨H',h1,h2,h3⟩:=MV.set (k:=k) p ho z o;refine RO.store (by grind) (h H' ?_) j m hd (by grind);have:=hu (t':=tS e 1 ((zs.set k z).map f) (zs.set k z).length full (.slice q 0 (zs.set k z).length cap ex)) h2 h3;grind
theorem pS{a:Type}{f:a→AV}{b:List a}(z:a)(c:k<b.length):(b.map f)[0+k*1]?=some (f (b.getD k z)):=by grind
theorem tB.new(e:Nat)(vs:List AV)(H:af):(tB e H.next vs).P (H.new (.cells (cM vs) vs.length e true [] 0)) [H.next]:=⟨ac3.2 rfl,λj hj=>ac3.1 hj,cM vs,by rw[af.dt,aH rfl],λj hj=>zE hj,by rw[af.mT];omega⟩
theorem uk(H:af):sE H [H.next]:=λj hj=>by grind
theorem ai.G9(U:ai A H ts)(e:Nat)(vs:List AV):ai A (H.new (.cells (cM vs) vs.length e true [] 0)) (tB e H.next vs::ts):=U.push (bf.new H _) (tB.new e vs H) (uk H)
theorem RO.dS(U:ai A H ts){x:aG}(h:∀H' q,ai A H' (tB e q v.cells::ts)→RO ab c l s (bA L d (.aw q 0)) H')(a:aV L x=v:=by(conv=>lhs;whnf)<;>rfl)(b:v.bB=true:=by first|rfl|assumption)(ho:dI v.cells=true:=by repeat first|rfl|assumption|(refine ao ?_ ?_)):RO ab c (⟨d,.box e x,none,[],[]⟩::l) s L H:=RO.box (h _ _ (U.G9 e v.cells)) a b ho
theorem RO.gk(U:ai A H ts){a:List AV}(h:∀H' q,ai A H' (tB e q a::ts)→RO ab c l s (bA L d (.aw q 0)) H'):RO ab c (⟨d,.alloc e a,none,[],[]⟩::l) s L H:=RO.alloc (h _ _ (U.G9 e a))
theorem RO.fG(U:ai A H ts){p:ac}{a us:List AV}{x:aG}{xv:AV}(h:∀H' q,ai A H' (tB e q us::ts)→RO ab c l s ((p,.aw q 0)::L) H')(f:∀w,aV ((p,w)::L) x=xv:=by(intro w;conv=>lhs;whnf)<;>rfl)(k:xv.cells=us:=by first|rfl|assumption)(m:us.length=n:=by first|rfl|simp)(o:a.length=n:=by rfl)(h1:dI us=true:=by repeat first|rfl|assumption|(refine ao ?_ ?_))(hd:xv.bB=true:=by first|rfl|assumption):RO ab c (⟨some p,.alloc e a,none,[],[]⟩::⟨none,.store n (.t p) x,none,[],[]⟩::l) s L H:=by
 refine RO.gk U λH1 q b=>?_;obtain⟨fp,g,_,hu⟩:=b.jV 0 rfl;obtain⟨H',fp',r,i,d⟩:=tB.vD (o:=0) (ws:=us) g (by omega) h1;have j:sp a 0 us=us:=by simp[sp,List.drop_eq_nil_of_le (show a.length≤us.length by omega)]
 rw[j]at d;exact RO.store (i:=q) (o:=0) (v:=xv) (by grind) (h H' q (hu i d)) (by show lk (bA L (some p) _) p=_;simp only[bA,lk,ac.gT.2 rfl]) (f _) hd (by grind)
theorem RO.nV(U:ai A H ts){a:List AV}{x y:aG}(h:∀H' q,ai A H' (tS e size (fx a n) n true (.slice q 0 n n true)::ts)→RO ab c l s (bA L d (.slice q 0 n n true)) H')(hx:aV L x=.int 3 (.ofNat n):=by(conv=>lhs;whnf)<;>rfl)(hy:aV L y=.int 3 (.ofNat n):=by(conv=>lhs;whnf)<;>rfl)(hz:(fx a n).length=n*size)(hb:n*bytes≤70368744177664:=by omega)(b:n≤70368744177664:=by omega):RO ab c (⟨d,.jr e bytes size a x y,none,[],[]⟩::l) s L H:=RO.jr (h _ _ (U.push (bf.new H _) (dK.new hz true true) (uk H))) hx hy
theorem iM(z:AV):∀n,fx [z] n=af3 n z|0=>rfl|n+1=>by simp only[fx,iM z n];rfl
theorem RO.rj(U:ai A H ts)(size:Nat){b:List AV}(h:∀H' v,ai A H' (tS e size [] 0 true v::ts)→RO ab c l s (bA L d v) H'):RO ab c (⟨d,.buildSlice e 0 b [],none,[],[]⟩::l) s L H:=RO.U8 (size:=size) λH' a fp' h1 h2 h3=>h H' a (U.push h2 h1 h3)
theorem ai.oG(U:ai A H ts)(e size:Nat):ai A H (tS e size [] 0 true .aP::ts):=U.push (fp:=[]) (bf.refl H) (.inl ⟨rfl,rfl,rfl,rfl⟩) λj hj=>by grind
theorem RO.pT(U:ai A H ts)(i:Nat){x y:aG}{b:AV}{f:List AV}(hs:Sl H size ws k b)(h:∀H' v,ai A H' (ts.set i (tS e size (vs++ws) (n+k) true v))→RO ab c l s (bA L d v) H')(hi:ts[i]?=some (tS e size vs n true sv):=by rfl)(h1:dI ws=true:=by repeat first|rfl|assumption|(refine ao ?_ ?_))(g:aV L x=sv:=by(conv=>lhs;whnf)<;>rfl)(j:aV L y=b:=by(conv=>lhs;whnf)<;>rfl)(hb:(n+k)*bytes≤70368744177664:=by omega)(m:n+k≤70368744177664:=by omega):RO ab c (⟨d,.append e bytes size f false x y,none,[],[]⟩::l) s L H:=by obtain⟨fp,o,_,hu⟩:=U.jV i hi;exact RO.U9 o hs h1 (λa H' fp' p q=>h H' a (hu q p)) g j hb m
theorem RO.push(U:ai A H ts)(i:Nat){p:ac}{x:aG}{b:List (Nat×Nat×aG)}{f a:List AV}(h:∀w H' v,ai A H' (ts.set i (tS e size (vs++ws) (n+1) true v))→RO ab c l s (bA ((p,w)::L) d v) H')(hi:ts[i]?=some (tS e size vs n true sv):=by rfl)(hl:pQ L (fx f 1) b=some ws:=by(conv=>lhs;whnf)<;>rfl)(j:ws.length=size:=by first|rfl|simp)(h1:dI ws=true:=by repeat first|rfl|assumption|(refine ao ?_ ?_))(g:∀w,aV ((p,w)::L) x=sv:=by(intro w;conv=>lhs;whnf)<;>rfl)(hb:(n+1)*bytes≤70368744177664:=by omega)(hn:n+1≤70368744177664:=by omega):RO ab c (⟨some p,.buildSlice e 1 f b,none,[],[]⟩::⟨d,.append e bytes size a false x (.t p),none,[],[]⟩::l) s L H:=by
 refine RO.buildSlice ?_ hl h1;have hg:bf H (H.new (.cells (cM ws) ws.length e true [] 0)):=bf.new H _;have hs:Sl (H.new (.cells (cM ws) ws.length e true [] 0)) size ws 1 (.slice H.next 0 1 1 true):=by have:=(dK.new (H:=H) (e:=e) (size:=size) (n:=1) (vs:=ws) (by omega) true true).sl;rw[show ws.length=1*size by omega];exact this
 exact RO.pT (U.cV hg) i hs (λH' v h2=>h _ H' v h2) hi h1 (g _) (by show lk (bA L (some p) _) p=_;simp only[bA,lk,ac.gT.2 rfl]) hb hn
theorem RO.kZ(U:ai A H ts)(size:Nat){a:List (Nat×Nat×aG)}{b:List AV}(h:∀H' q,ai A H' (tS e size ws n true (.slice q 0 n n true)::ts)→RO ab c l s (bA L d (.slice q 0 n n true)) H')(hl:pQ L (fx b n) a=some ws:=by(conv=>lhs;whnf)<;>rfl)(f:ws.length=n*size:=by rfl)(h1:dI ws=true:=by repeat first|rfl|assumption|(refine ao ?_ ?_)):RO ab c (⟨d,.buildSlice e n b a,none,[],[]⟩::l) s L H:=by refine RO.buildSlice ?_ hl h1;rw[f];exact h _ _ (U.push (bf.new H _) (dK.new f true true) (uk H))
theorem ai.uj(U:ai A H ts)(i:Nat)(hi:ts[i]?=some (tS e size vs n full sv))(a:n≠0):∃q cap ex,sv=.slice q 0 n cap ex:=by obtain⟨fp,b⟩:=U.get i hi;exact dK.uj b a
theorem Sl.all(h:Sl H size vs n sv):sv.bB=true∧sv.dQ=true∧sv.cells=[sv]∧lenOf sv=some n:=⟨h.bB,h.dQ,h.cells,h.len⟩
theorem ai.sl(U:ai A H ts)(i:Nat)(hi:ts[i]?=some (tS e size vs n full sv):=by rfl):Sl H size vs n sv:=by obtain⟨fp,a⟩:=U.get i hi;exact dK.sl a
theorem up{P:Nat→Prop}(n:Nat)(h:∀k,k≤n→(∀j,k<j→j≤n→P j)→P k):∀k,k≤n→P k:=by
 have:∀d k,n - k=d→k≤n→P k:=by intro d;induction d using Nat.strongRecOn with|ind d a=>intro k hd b;exact h k b λj h1 h2=>a (n - j) (by omega) j rfl h2
 grind
end
end Go.ak
namespace Go.G
structure gW where
 op:Nat
 to:Int
 args:List Int
 n:Int
 m:Int
 name:List Nat
 deriving Inhabited
structure Edge where
 block:Int
 args:List Int
 deriving Inhabited
structure k6 where
 op:Nat
 args:List Int
 name:List Nat
 bY:List Nat
 go:List Edge
 deriving Inhabited
structure gD where
 params:List Int
 aA:List gW
 aq:k6
 deriving Inhabited
structure bu where
 name:List Nat
 params:Int
 bi:Int
 aj:List gD
 deriving Inhabited
end Go.G
namespace Go.G
structure Sm(g:bu):Prop where
 nb:g.aj.length≤5000
 bl:∀b∈g.aj,b.params.length≤12∧b.aA.length≤40∧b.aq.args.length≤12∧b.aq.bY.length≤12∧b.aq.go.length≤12∧b.aq.name.length≤60
 st:∀b∈g.aj,∀s∈b.aA,s.args.length≤12∧s.name.length≤250
 ed:∀b∈g.aj,∀e∈b.aq.go,e.args.length≤12
end Go.G
namespace Go.ak
abbrev aU(n:Nat):AV:=.int 4 (.ofNat n)
abbrev Hc(H:af)(l:List Nat)(sv:AV):Prop:=Sl H 1 (l.map aU) l.length sv
def dL{h:Type}(size:Nat)(R:af→h→List AV→Prop)(H:af)(l:List h)(sv:AV):Prop:=
 ∃a,Sl H size a l.length sv∧∀k(b:k<l.length),R H l[k] ((a.drop (k*size)).take size)
def dH{h c:Type}(R:af→h→c→Prop):Prop:=∀{H H':af}{a:h}{b:c},bf H H'→R H a b→R H' a b
def rl(H:af)(e:G.Edge)(cs:List AV):Prop:=∃v,cs=[aI e.block,v]∧iy H e.args v
def pU(H:af)(s:G.gW)(cs:List AV):Prop:=∃v,cs=[aU s.op,aI s.to,v,aI s.n,aI s.m,.aC s.name]∧iy H s.args v
def sG(H:af)(j:G.k6)(cs:List AV):Prop:=∃a b c,cs=[aU j.op,a,.aC j.name,b,c]∧iy H j.args a∧Hc H j.bY b∧dL 2 rl H j.go c
def jW(H:af)(b:G.gD)(cs:List AV):Prop:=∃a c d,cs=a::c::d∧iy H b.params a∧dL 6 pU H b.aA c∧sG H b.aq d
def iD(H:af)(g:G.bu)(cs:List AV):Prop:=∃a,cs=[.aC g.name,aI g.params,aI g.bi,a]∧dL 7 jW H g.aj a
theorem dH.jD{h:Type}{size:Nat}{R:af→h→List AV→Prop}(a:dH R):dH (dL size R):=λg⟨b,h1,h2⟩=>⟨b,g.sl h1,λk c=>a g (h2 k c)⟩
theorem dH.Hd:dH rl:=λg⟨v,h1,h2⟩=>⟨v,h1,g.sl h2⟩
theorem dH.step:dH pU:=λg⟨v,h1,h2⟩=>⟨v,h1,g.sl h2⟩
theorem dH.He:dH sG:=λg⟨a,b,c,h1,h2,h3,d⟩=>⟨a,b,c,h1,g.sl h2,g.sl h3,dH.Hd.jD g d⟩
theorem dH.block:dH jW:=λg⟨a,b,c,h1,h2,h3,d⟩=>⟨a,b,c,h1,g.sl h2,dH.step.jD g h3,dH.He g d⟩
theorem dH.mU:dH iD:=λg⟨a,h1,h2⟩=>⟨a,h1,dH.block.jD g h2⟩
variable{h:Type}{size n k:Nat}{R:af→h→List AV→Prop}{H:af}{la:List h}{sv:AV}
theorem dL.len(b:dL size R H la sv):lenOf sv=some la.length:=by obtain⟨a,b,_⟩:=b;exact b.len
theorem dL.bB(b:dL size R H la sv):sv.bB=true:=by obtain⟨a,b,_⟩:=b;exact b.bB
theorem dL.dQ(b:dL size R H la sv):sv.dQ=true:=by obtain⟨a,b,_⟩:=b;exact b.dQ
theorem dL.cells(b:dL size R H la sv):sv.cells=[sv]:=by obtain⟨a,b,_⟩:=b;exact b.cells
theorem dL.all(a:dL size R H la sv):sv.bB=true∧sv.dQ=true∧sv.cells=[sv]∧lenOf sv=some la.length:=⟨a.bB,a.dQ,a.cells,a.len⟩
theorem dL.at(g:dL size R H la sv)(a:k<la.length):∃q o cap ex cs,sv=.slice q o la.length cap ex∧R H la[k] cs∧cs.length=size∧(∀j v,cs[j]?=some v→bh H q (o+k*size+j)=some v)∧fj H q (o+k*size) size=some cs:=by
 obtain⟨b,h1,h2⟩:=g;have hl:=h1.length;have c:k*size+size≤b.length:=by rw[hl,←Nat.succ_mul];exact ahf _ a
 obtain⟨q,o,cap,ex,e,_,_,d,f⟩:=h1.at (by omega);grind
theorem rl.one{e:G.Edge}{cs:List AV}(a:rl H e cs):dI cs=true:=by obtain⟨v,rfl,a⟩:=a;exact ao rfl (ao a.dQ rfl)
theorem pU.one{e:G.gW}{cs:List AV}(a:pU H e cs):dI cs=true:=by obtain⟨v,rfl,a⟩:=a;exact ao rfl (ao rfl (ao a.dQ rfl))
theorem sG.one{e:G.k6}{cs:List AV}(d:sG H e cs):dI cs=true:=by obtain⟨a,b,c,rfl,h1,h2,h3⟩:=d;exact ao rfl (ao h1.dQ (ao rfl (ao h2.dQ (ao h3.dQ rfl))))
theorem jW.one{e:G.gD}{cs:List AV}(d:jW H e cs):dI cs=true:=by obtain⟨a,b,c,rfl,h1,h2,h3⟩:=d;exact ao h1.dQ (ao h2.dQ h3.one)
theorem iD.one{e:G.bu}{cs:List AV}(a:iD H e cs):dI cs=true:=by obtain⟨v,rfl,a⟩:=a;exact ao rfl (ao rfl (ao rfl (ao a.dQ rfl)))
variable{ab:Nat→aE}{c:Cx}{s:List SI}{L:Kn}{d:Option ac}{l:List aS}
theorem RO.cP{B:af}(hg:bf B H){x y:aG}{j kd:Nat}(hs:dL size R B la sv)(n:∀q o cs(hj:j<la.length),R B la[j] cs→cs.length=size→(∀t v,cs[t]?=some v→bh H q (o+t)=some v)→fj H q o size=some cs→RO ab c l s (bA L d (.aw q o)) H)(e:aV L x=sv:=by(conv=>lhs;whnf)<;>rfl)(f:aV L y=.int kd (.ofNat j):=by(conv=>lhs;whnf)<;>rfl)(hj:j<la.length:=by first|assumption|omega):RO ab c (⟨d,.dk size x y,none,[],[]⟩::l) s L H:=by
 obtain⟨q,o,cap,ex,cs,rfl,h1,h2,h3,g⟩:=hs.at hj;have k:∀t,bh H q t=bh B q t∧fj H q t size=fj B q t size:=λt=>by
  obtain⟨m,b,_⟩:=hs;have a:q.al<B.next.al:=by
   rcases b with⟨n,_⟩|⟨i,_,_,_,_,_,_,_,_,_,n,_,_,_,_,hi,_⟩;·cases n
   injection n with n;subst n;exact hi
  exact⟨hg.bh a t,by simp only[fj,hg.dJ q a]⟩
 grind[RO.dk,trans]
theorem RO.oH{B:af}(hg:bf B H){a:List Int}{x y:aG}{j kd:Nat}(hs:iy B a sv)(i:∀q o(hj:j<a.length),bh H q o=some (aI a[j])→RO ab c l s (bA L d (.aw q o)) H)(b:aV L x=sv:=by(conv=>lhs;whnf)<;>rfl)(e:aV L y=.int kd (.ofNat j):=by(conv=>lhs;whnf)<;>rfl)(hj:j<a.length:=by first|assumption|omega):RO ab c (⟨d,.dk 1 x y,none,[],[]⟩::l) s L H:=RO.U6 (hg.sl hs) (λq o z f g _=>i q o hj (by grind)) b e hj
theorem RO.jX{B:af}(hg:bf B H){f:h→AV}{x y:aG}{j kd:Nat}(hs:Sl B 1 (la.map f) la.length sv)(m:∀q o(hj:j<la.length),bh H q o=some (f la[j])→RO ab c l s (bA L d (.aw q o)) H)(b:aV L x=sv:=by(conv=>lhs;whnf)<;>rfl)(e:aV L y=.int kd (.ofNat j):=by(conv=>lhs;whnf)<;>rfl)(hj:j<la.length:=by first|assumption|omega):RO ab c (⟨d,.dk 1 x y,none,[],[]⟩::l) s L H:=RO.cP (R:=λ_ a cs=>cs=[f a]) hg ⟨_,hs,λk g=>by simp[g,ah9,agR]⟩ (λq o cs hj i _ hat _=>m q o hj (by subst i;exact hat 0 _ rfl)) b e hj
theorem RO.Va{B:af}{g:List AV}{n e:Nat}{x y:aG}{b k:Nat}(hs:Sl B size g n sv)(z:∀a,Sl B size (g.take (b*size)) b a→RO ab c l s (bA L d a) H)(p:aV L x=sv:=by(conv=>lhs;whnf)<;>rfl)(q:aV L y=.int k (.ofNat b):=by(conv=>lhs;whnf)<;>rfl)(hb:b≤n:=by omega):RO ab c (⟨d,.gR e size x none (some y) none,none,[],[]⟩::l) s L H:=by
 rcases hs with⟨rfl,rfl,rfl⟩|⟨i,o,cap,ex,t,m,u,f,aK,fz,rfl,hg,w,hl,v,hi,r⟩
 ·have:b=0:=by omega
  subst this;refine RO.Bo (m:=0) (b:=0) (a:=0) p rfl ?_ rfl (z _ (.inl ⟨rfl,rfl,by simp⟩));simp only[lD,q];rfl
 refine RO.gR (m:=cap) (b:=b) (a:=0) p rfl ?_ rfl (by simp) ?_;·simp only[lD,q];exact sF (by omega)
 have e1:(if ex&&decide (cap=0)then o else o+0*size)=o:=by split<;>omega
 rw[e1,aip,aip];have co:b*size≤n*size:=ahf _ hb;refine z _ (.inr ⟨i,o,cap,_,t,m,u,f,aK,fz,rfl,hg,by omega,?_,λj hj=>?_,hi,by omega⟩);·rw[ahl];omega
 rw[ahl]at hj;rw[v j (by omega)];simp
theorem RO.Vb{p:List AV}{n e:Nat}{x y:aG}{b k o cap:Nat}{q:ac}(hs:Sl H size p n (.slice q o n cap true))(D:∀a,Sl H size (p.drop (b*size)) (n - b) a→RO ab c l s (bA L d a) H)(u:aV L x=.slice q o n cap true:=by(conv=>lhs;whnf)<;>rfl)(hy:aV L y=.int k (.ofNat b):=by(conv=>lhs;whnf)<;>rfl)(hb:b≤n:=by omega):RO ab c (⟨d,.gR e size x (some y) none none,none,[],[]⟩::l) s L H:=by
 rcases hs with⟨h0,_⟩|⟨i,B,r,ex,v,m,w,f,aK,fz,h0,hg,C,hl,z,hi,t⟩;·grind
 injection h0 with h1 h2 _ h3 A;subst h1;subst h2;subst h3;subst A;refine RO.gR (m:=cap) (b:=n) (a:=b) u rfl (by simp[lD]) ?_ (by simp) ?_;·simp only[lD,hy];exact sF hb
 have co:b*size≤n*size:=ahf _ hb;refine D _ (.inr ⟨q,_,_,_,v,m,w,f,aK,fz,rfl,hg,?_,?_,λj hj=>?_,hi,by omega⟩);·rw[Nat.sub_mul];split<;>omega
 ·rw[aih,hl,Nat.sub_mul]
 rw[aih]at hj;split
 ·rename_i g;simp only[Bool.true_and,decide_eq_true_eq]at g;have:b=n:=by omega
  subst this;omega
 rw[ah3,z (b*size+j) (by omega)];simp
theorem RO.Vc{B:af}{e:Nat}{x y:aG}{b k:Nat}(hs:dL size R B la sv)(m:∀a,dL size R B (la.take b) a→RO ab c l s (bA L d a) H)(g:aV L x=sv:=by(conv=>lhs;whnf)<;>rfl)(i:aV L y=.int k (.ofNat b):=by(conv=>lhs;whnf)<;>rfl)(hb:b≤la.length:=by omega):RO ab c (⟨d,.gR e size x none (some y) none,none,[],[]⟩::l) s L H:=by obtain⟨j,h1,h2⟩:=hs;refine RO.Va h1 (λa h3=>m a ⟨_,by rw[ahl,aid hb];exact h3,λk f=>?_⟩) g i hb;rw[ahl,aid hb]at f;have:=h2 k (by omega);rw[List.getElem_take,List.drop_take,List.take_take,aid (by have:(k+1)*size≤b*size:=ahf _ f;rw[Nat.succ_mul]at this;omega)];exact this
def pk(M:Kn):List ac→Kn
 |[]=>[]
 |p::l=>(p,lk M p)::pk M l
theorem Ru.nm{H:af}(a:∀S M,S=s→M=L→Ru ab c S M H):Ru ab c s L H:=a s L rfl rfl
theorem kg.pk(M:Kn):∀a,kg (pk M a) M|[]=>trivial|_::l=>⟨rfl,kg.pk M l⟩
theorem kg.vF{M K:Kn}(h2:kg K M):∀{l:Kn},kg l M→kg (l++K) M|[],_=>h2|_::_,a=>⟨a.1,kg.vF h2 a.2⟩
theorem Ru.cA{M L da:Kn}{a:List ac}{H:af}(b:M=L)(d:Ru ab c s (da++pk M a) H)(hl:kg da L:=by repeat'(first|exact trivial|refine⟨rfl,?_⟩)):Ru ab c s M H:=d.rh (kg.vF (kg.pk M a) (by grind))
theorem Ru.wk{M:Kn}{H:af}(a:Ru ab c s L H)(hl:kg L M:=by repeat'(first|exact trivial|refine⟨rfl,?_⟩)):Ru ab c s M H:=a.rh hl
end Go.ak
end
