/- A part of the proof. No conditions. -/
import Derived.Test.YtjhkgigolpfcfaaGreatDoorA03
set_option linter.all false
open Option.some renaming injEq->adG
open Option renaming map_eq_some_iff->aho
open List renaming mem_singleton->aep,mem_cons_of_mem->aey,mem_cons_self->aeU,replicate->ahr,length_map->akg,length_cons->akA,length_singleton->akC,length_take->akF,getElem?_cons_succ->ak6,length_drop->alC
open Nat renaming eq_of_beq_eq_true->aj4,beq->akb,le_of_ble_eq_true->akc,blt->akv,ble_eq_true_of_le->akB,blt_eq->akY,ble->ak2,le_trans->alj,add_assoc->alo,min_eq_left->aly
open Int renaming ofNat->ak1
open List.Perm renaming cons->akO,swap->akS
open Eq renaming mpr->alN
noncomputable section
namespace Go.am
section
theorem cw{c:Type}{a b:c}(h:a=b:=by(conv=>lhs;whnf)<;>rfl):a=b:=h
theorem fB{p:Prop}(h:p:=by repeat'(first|exact trivial|refine⟨rfl,?_⟩)):p:=h
variable{ac:Nat->aG}
abbrev Kn:=List (ab×AV)
def lk:Kn->ab->AV
 |[],_=>.co
 |(q,v)::l,p=>match ab.beq q p with
  |true=>v
  |false=>lk l p
def Le(L:Kn)(aa:ap AV):Prop:=∀p v,lk L p=v->v=.co\/aa.get .alR p=v
def bf(L:Kn):aJ->AV
 |.t p=>lk L p
 |.c v=>v
def bC(L:Kn)(d:Option ab)(v:AV):Kn:=
 match d with
 |some p=>(p,v)::L
 |none=>L
theorem Le.get{L:Kn}{aa:ap AV}(h:Le L aa){p:ab}{v:AV}(b:lk L p=v)(a:v.bB=true):aa.get .alR p=v:=by
 rcases h p v b with e|e;·rw[e]at a;cases a
 exact e
theorem Le.gv{L:Kn}{aa:ap AV}(h:Le L aa){x:aJ}{v:AV}(a:bf L x=v)(b:v.bB=true):gv aa x=v:=by cases x with|t p=>exact h.get a b|c w=>trivial
theorem Le.set{L:Kn}{aa:ap AV}(h:Le L aa)(d:Option ab)(v:AV):Le (bC L d v) (aQ aa d v):=by cases d with|none=>exact h|some p=>intro q w a;simp only[bC,aQ,lk]at a⊢;rw[ap.aF];cases hb:ab.beq p q with|true=>rw[hb]at a;rw[aK (ab.ip.1 hb).symm];exact .inr a|false=>rw[hb]at a;rw[aq λe=>by rw[e,ab.ip.2 rfl]at hb;cases hb];exact h q w a
def ky:Kn->Kn->Prop
 |[],_=>True
 |(p,v)::l,m=>lk m p=v/\ky l m
theorem ky.get:∀{l m:Kn},ky l m->∀p v,lk l p=v->v=.co\/lk m p=v|[],_,_,p,v,h=>.inl h.symm|(q,w)::l,m,h,p,v,a=>by simp only[lk]at a;cases hb:ab.beq q p with|true=>rw[hb]at a;rw[<-ab.ip.1 hb];exact .inr (h.1.trans a)|false=>rw[hb]at a;exact ky.get h.2 p v a
theorem Le.rZ{L M:Kn}{aa:ap AV}(h:ky L M)(a:Le M aa):Le L aa:=λp v b=>by
 rcases h.get p v b with e|e;·grind
 exact a p v e
inductive SI where
 |code(c:bt)
 |aH(id:Nat)
structure Cx where
 K:cP->Fr->ai->Prop
 M:List ab
 R:Option ab
def kh(ac:Nat->aG)(K:cP->Fr->ai->Prop):List SI->cP->Fr->ai->Prop
 |[],j,fr,H=>K j fr H
 |.code c::s,j,fr,H=>match j with
  |.none=>∃n,Xc ac n c fr H (kh ac K s)
  |j=>kh ac K s j fr H
 |.aH id::s,j,fr,H=>match j with
  |.exit i=>if akb i id then kh ac K s .none fr H else kh ac K s (.exit i) fr H
  |j=>kh ac K s j fr H
def RJ(ac:Nat->aG)(c:Cx)(j:cP)(s:List SI)(L:Kn)(H:ai):Prop:=∀aa,Le L aa->kh ac c.K s j ⟨aa,c.M,c.R⟩ H
def Ru(ac:Nat->aG)(c:Cx)(s:List SI)(L:Kn)(H:ai):Prop:=RJ ac c .none s L H
def RO(ac:Nat->aG)(c:Cx)(l:List be)(s:List SI)(L:Kn)(H:ai):Prop:=∀aa,Le L aa->∃n,Xo ac n l ⟨aa,c.M,c.R⟩ H (kh ac c.K s .none)
def YF(ac:Nat->aG)(f:AV)(args:List AV)(H:ai)(K:KT):Prop:=∃n,Xf ac n f args H K
abbrev YN(ac:Nat->aG)(f:Nat):=YF ac (.func f [] [])
variable{c:Cx}{s:List SI}{L:Kn}{H:ai}
theorem Ru.rZ{M:Kn}(h:Ru ac c s L H)(hl:ky L M):Ru ac c s M H:=λaa a=>h aa (a.rZ hl)
theorem YF.mono{f:AV}{args:List AV}{K a:KT}(h:YF ac f args H K)(b:∀v H,K v H->a v H):YF ac f args H a:=by obtain⟨n,h⟩:=h;exact⟨n,h.mono (afb _) b⟩
theorem mC{n:Nat}{a:bt}{s:List SI}{b:bt}{fr:Fr}{K:cP->Fr->ai->Prop}(h:Xc ac n a fr H (kh ac K (.code b::s))):∃k,Xc ac k a fr H λj fr H=>match j with|.none=>Xc ac k b fr H (kh ac K s)|j=>kh ac K s j fr H:=by obtain⟨m,d⟩:=(Ad ac n).exec (K:=λm j fr H=>match j with|.none=>Xc ac m b fr H (kh ac K s)|j=>kh ac K s j fr H) (λm e j fr H c hj=>by cases j with|none=>exact hj.mono c λ_ _ _ h=>h|exit i=>omega|ret=>omega) ((mono ac n).exec (afb _) (λj fr H hj=>by cases j with|none=>trivial|exit i=>exact⟨0,hj⟩|ret=>exact⟨0,hj⟩) h);refine⟨max n m,(show Xc ac n a fr H _ from d).mono (Nat.le_max_left ..) λj fr H hj=>?_⟩;cases j with|none=>exact(show Xc ac m b fr H _ from hj).mono (Nat.le_max_right ..) λ_ _ _ h=>h|exit i=>omega|ret=>omega
theorem Ru.seq{a b:bt}(h:Ru ac c (.code a:: .code b::s) L H):Ru ac c (.code (.seq a b)::s) L H:=λaa d=>by obtain⟨n,e⟩:=h aa d;obtain⟨k,f⟩:=mC e;exact⟨k+1,Xc.seq f⟩
theorem Ru.loop{b:bt}(h:Ru ac c (.code b:: .code (.loop b)::s) L H):Ru ac c (.code (.loop b)::s) L H:=λaa a=>by obtain⟨n,d⟩:=h aa a;obtain⟨k,e⟩:=mC d;exact⟨k+1,Xc.loop e⟩
theorem Ru.region{l:List be}(h:RO ac c l s L H):Ru ac c (.code (.region l)::s) L H:=λaa a=>by obtain⟨n,b⟩:=h aa a;exact⟨n+1,Xc.region b⟩
theorem Ru.skip(h:Ru ac c s L H):Ru ac c (.code .skip::s) L H:=λaa a=>⟨1,Xc.skip (h aa a)⟩
theorem Ru.block{id:Nat}{b:bt}(h:Ru ac c (.code b:: .aH id::s) L H):Ru ac c (.code (.block id b)::s) L H:=λaa a=>by obtain⟨n,d⟩:=h aa a;exact⟨n+1,Xc.block (d.mono (afb _) λj fr H hj=>by cases j<;>exact hj)⟩
theorem Ru.pp{x:aJ}{a b:bt}(h:Ru ac c (.code a::s) L H)(e:bf L x=.bool true:=by exact cw):Ru ac c (.code (.cond x a b)::s) L H:=λaa d=>by obtain⟨n,f⟩:=h aa d;exact⟨n+1,Xc.pp (d.gv e rfl) f⟩
theorem Ru.nI{x:aJ}{a b:bt}(h:Ru ac c (.code b::s) L H)(e:bf L x=.bool false:=by exact cw):Ru ac c (.code (.cond x a b)::s) L H:=λaa d=>by obtain⟨n,f⟩:=h aa d;exact⟨n+1,Xc.nI (d.gv e rfl) f⟩
theorem Ru.kN{x:aJ}{a b:bt}{t:Bool}(h1:t=true->Ru ac c (.code a::s) L H)(h2:t=false->Ru ac c (.code b::s) L H)(d:bf L x=.bool t:=by exact cw):Ru ac c (.code (.cond x a b)::s) L H:=by cases t with|true=>exact Ru.pp (h1 rfl) d|false=>exact Ru.nI (h2 rfl) d
theorem Ru.cond{x:aJ}{a b:bt}{p:Prop} [Decidable p](h1:p->Ru ac c (.code a::s) L H)(h2:¬p->Ru ac c (.code b::s) L H)(d:bf L x=.bool (decide p):=by exact cw):Ru ac c (.code (.cond x a b)::s) L H:=Ru.kN (λh=>h1 (of_decide_eq_true h)) (λh=>h2 (of_decide_eq_false h)) d
theorem Ru.exit{id:Nat}(h:RJ ac c (.exit id) s L H):Ru ac c (.code (.exit id)::s) L H:=λaa a=>⟨1,Xc.exit (h aa a)⟩
theorem Ru.ret(h:RJ ac c .ret s L H):Ru ac c (.code .ret::s) L H:=λaa a=>⟨1,Xc.ret (h aa a)⟩
theorem Ru.aH{id:Nat}(h:Ru ac c s L H):Ru ac c (.aH id::s) L H:=h
theorem RJ.code{a:bt}{i:Nat}(h:RJ ac c (.exit i) s L H):RJ ac c (.exit i) (.code a::s) L H:=h
theorem RJ.VV{i:Nat}(h:Ru ac c s L H):RJ ac c (.exit i) (.aH i::s) L H:=λaa a=>by simp only[kh,ald,bq];exact h aa a
theorem RJ.VW{i id:Nat}(hi:akb i id=false)(h:RJ ac c (.exit i) s L H):RJ ac c (.exit i) (.aH id::s) L H:=λaa a=>by simp only[kh,hi,aes,bP];exact h aa a
theorem RJ.VX{a:bt}(h:RJ ac c .ret s L H):RJ ac c .ret (.code a::s) L H:=h
theorem RJ.VY{id:Nat}(h:RJ ac c .ret s L H):RJ ac c .ret (.aH id::s) L H:=h
theorem RJ.wp:∀{s:List SI},RJ ac c .ret [] L H->RJ ac c .ret s L H|[],h=>h|.code _::_,h=>RJ.VX (RJ.wp h)|.aH _::_,h=>RJ.VY (RJ.wp h)
def B9(i:Nat):List SI->Option (List SI)
 |[]=>none
 |.code _::s=>B9 i s
 |.aH id::s=>if akb i id then some s else B9 i s
theorem RJ.HQ{i:Nat}:∀{s t:List SI},B9 i s=some t->Ru ac c t L H->RJ ac c (.exit i) s L H
 |[],_,h,_=>by cases h
 |.code _::s,t,h,k=>RJ.code (RJ.HQ h k)
 |.aH id::s,t,h,k=>by
  simp only[B9]at h;split at h;·simp_all[aj4,RJ.VV]
  rename_i e;exact RJ.VW (by grind) (RJ.HQ h k)
theorem Ru.exitTo{i:Nat}{t:List SI}(k:Ru ac c t L H)(h:B9 i s=some t:=by rfl):Ru ac c (.code (.exit i)::s) L H:=Ru.exit (RJ.HQ h k)
theorem RO.nil(h:Ru ac c s L H):RO ac c [] s L H:=λaa a=>⟨1,Xo.nil (h aa a)⟩
theorem RO.op{d:Option ab}{op:bW}{l:List be}{v:AV}{H':ai}(he:∀aa,Le L aa->aE op aa H=some (v,H'))(h:RO ac c l s (bC L d v) H'):RO ac c (⟨d,op,none,[],[]⟩::l) s L H:=λaa a=>by obtain⟨n,b⟩:=h _ (a.set d v);exact⟨n+1,Xo.op (he aa a) b⟩
theorem RO.call{d:Option ab}{f:aJ}{args:List aJ}{l:List be}{fv:AV}{b:List AV}(h:YF ac fv b H λv H'=>RO ac c l s (bC L d v) H')(k:bf L f=fv:=by exact cw)(g:fv.bB=true:=by first|rfl|assumption)(o:args.map (bf L)=b:=by rfl)(i:b.all AV.bB=true:=by first|rfl|assumption):RO ac c (⟨d,.call f args,none,[],[]⟩::l) s L H:=λaa a=>by
 obtain⟨n,p⟩:=h;have j:args.map (gv aa)=b:=by subst o;refine alk λx q=>?_;exact a.gv rfl (aln.1 i _ (akp q))
 obtain⟨m,e⟩:=(Ad ac n).call (K:=λm v H'=>Xo ac m l ⟨aQ aa d v,c.M,c.R⟩ H' (kh ac c.K s .none)) (λm t v H e h=>h.mono e λ_ _ h=>h) ((mono ac n).call (afb _) (λv H' r=>r _ (a.set d v)) p);refine⟨max n m+1,Xo.call ?_⟩;rw[a.gv k g,j];exact(show Xf ac n fv b H _ from e).mono (Nat.le_max_left ..) λv H' h=>(show Xo ac m l _ H' _ from h).mono (Nat.le_max_right ..) λ_ _ h=>h
def pu(a:List iW)(K:KT)(j:cP)(fr:Fr)(H:ai):Prop:=
 match j with
 |.exit _=>False
 |_=>match jN H fr.bI with
  |some H=>match gZ fr.aa H a with
   |some l=>K (iL l) H
   |none=>False
  |none=>False
abbrev wt(a:List iW)(K:KT):Cx:=⟨pu a K,[],none⟩
theorem Nw:∀(l:List AV)(p q:ab)(t:ap AV),(kJ l p t).get .alR q=if p.an<=q.an/\q.an<p.an+l.length then l.getD (q.an - p.an) .alR else t.get .alR q
 |[],p,q,t=>by simp[kJ,List.length_nil,aq]
 |v::l,p,q,t=>by
  simp only[kJ];rw[Nw l p.succ q (t.set .alR p v),ab.gK,ap.aF];simp only[akA];by_cases h1:p.an+1<=q.an/\q.an<p.an+1+l.length;·grind
  rw[aq h1];by_cases h2:q=p;·grind
  rw[aq h2,aq];grind[ab.uC]
def wu:List AV->Nat->Kn
 |[],_=>[]
 |v::l,k=>(ab.dF k,v)::wu l (k+1)
theorem Le.wu:∀(l:List AV)(k:Nat)(aa:ap AV),(∀i(h:i<l.length),aa.get .alR (ab.dF (k+i))=l[i])->Le (wu l k) aa|[],_,_,_=>λp v h=>.inl h.symm|w::l,k,aa,h=>λp v a=>by simp only[Go.am.wu,lk]at a;cases hb:ab.beq (ab.dF k) p with|true=>rw[hb]at a;rw[<-ab.ip.1 hb,<-a];exact .inr (h 0 aB)|false=>rw[hb]at a;exact Le.wu l (k+1) aa (λi hi=>by have:=h (i+1) (by simpa using hi);grind) p v a
theorem Le.args(l:List AV):Le (Go.am.wu l 0) (kJ l .xH .aL):=Le.wu l 0 _ λi hi=>by rw[Nw,ab.ml,akh,aK (by grind[ab.an])];simp[hi,ab.an,Nat.add_sub_cancel,akm,getElem?_pos,akQ]
theorem YF.code{f a:Nat}{b:List iW}{body:bt}{fs as cs:List AV}{K:KT}(c:ac f=.code a b body)(hl:(fs++as++cs).length<=a)(h:Ru ac (wt b K) [.code body] (wu (fs++as++cs) 0) H):YF ac (.func f fs cs) as H K:=by obtain⟨n,d⟩:=h _ (Le.args (fs++as++cs));refine⟨n+1,?_⟩;simp only[Xf,io,c];rw[aK (akB hl)];refine Xc.mono (afb _) (λj fr H hj=>?_) d;cases j with|exit i=>exact hj|none=>exact hj|ret=>exact hj
theorem YF.ix{f:Nat}{g:List AV->ai->Option (AV×ai)}{fs as cs:List AV}{v:AV}{H':ai}{K:KT}(a:ac f=.ix g)(hg:g (fs++as++cs) H=some (v,H'))(h:K v H'):YF ac (.func f fs cs) as H K:=by refine⟨1,?_⟩;simp_all[Xf,io]
def ye(L:Kn):List iW->List AV->Prop
 |[],[]=>True
 |.tmp p::a,v::b=>lk L p=v/\v.bB=true/\ye L a b
 |_,_=>False
theorem ye.yf{aa:ap AV}(a:Le L aa):∀{b:List iW}{c:List AV},ye L b c->gZ aa H b=some c|[],[],_=>rfl|.tmp p::b,v::c,h=>by simp only[gZ,ye.yf a h.2.2,akt,a.get h.1 h.2.1]|[],_::_,h=>h.elim|.tmp _::_,[],h=>h.elim|.cell .. ::_,[],h=>h.elim|.cell .. ::_,_::_,h=>h.elim
theorem RJ.aA{j:cP}{b:List iW}{K:KT}{vs:List AV}(hj:j=.none\/j=.ret)(c:ye L b vs)(h:K (iL vs) H):RJ ac (wt b K) j [] L H:=λaa a=>by have:=c.yf (H:=H) a;rcases hj with rfl|rfl<;>simp only[kh,pu,jN,this]<;>exact h
theorem Ru.aA{a:List iW}{K:KT}{vs:List AV}(b:ye L a vs)(h:K (iL vs) H):Ru ac (wt a K) [] L H:=RJ.aA (.inl rfl) b h
theorem Ru.mD{a:List iW}{K:KT}{vs:List AV}{s:List SI}(b:ye L a vs)(h:K (iL vs) H):Ru ac (wt a K) (.code .ret::s) L H:=Ru.ret (RJ.wp (RJ.aA (.inr rfl) b h))
theorem Ru.aV{p:ab}{K:KT}{v:AV}{s:List SI}(h:K v H)(a:lk L p=v:=by exact cw)(hd:v.bB=true:=by first|rfl|assumption):Ru ac (wt [.tmp p] K) (.code .ret::s) L H:=Ru.mD (vs:=[v]) ⟨a,hd,trivial⟩ h
theorem Ru.tk{p q:ab}{K:KT}{v w:AV}{s:List SI}(h:K (.tuple [v,w]) H)(c:lk L p=v:=by exact cw)(hd:v.bB=true:=by first|rfl|assumption)(a:lk L q=w:=by exact cw)(b:w.bB=true:=by first|rfl|assumption):Ru ac (wt [.tmp p,.tmp q] K) (.code .ret::s) L H:=Ru.mD (vs:=[v,w]) ⟨c,hd,a,b,trivial⟩ h
end
end Go.am
namespace Go.am.R
structure Kp(Q:Prop):Prop where
 q:Q
theorem au{P Q:Prop}(k:Q)(h:Kp Q->P:=by intro k;(repeat(first|refine RO.bg ?_|refine RO.j7 ?_|refine RO.Ae ?_|refine RO.lss ?_|refine RO.nil ?_|refine Ru.region ?_|refine Ru.seq ?_|refine Ru.block ?_|refine Ru.skip ?_|refine Ru.aH ?_|refine RO.Af ?_|refine RO.neq ?_|refine RO.Ag ?_|refine RO.eql ?_|refine RO.Ah ?_|refine RO.gtr ?_|refine RO.Ai ?_|refine RO.geq ?_|refine RO.Aj ?_|refine RO.leq ?_|refine RO.Ak ?_|refine RO.aW ?_|refine RO.gw ?_|refine RO.extract ?_|refine RO.un ?_|refine RO.part ?_|refine RO.qC ?_|refine RO.j6 ?_|refine RO.build ?_|refine RO.iP ?_|refine RO.lT ?_|refine Ru.pp ?_|refine Ru.nI ?_|refine RO.tm ?_|refine RO.yg ?_));exact k.1):P:=h ⟨k⟩
theorem tn{P Q:Prop}(k:Q)(h:Kp Q->P:=by intro k;(repeat(first|refine RO.bg ?_|refine RO.j7 ?_|refine RO.Ae ?_|refine RO.lss ?_|refine RO.nil ?_|refine Ru.region ?_|refine Ru.seq ?_|refine Ru.block ?_|refine Ru.skip ?_|refine Ru.aH ?_|refine RO.Af ?_|refine RO.neq ?_|refine RO.Ag ?_|refine RO.eql ?_|refine RO.Ah ?_|refine RO.gtr ?_|refine RO.Ai ?_|refine RO.geq ?_|refine RO.Aj ?_|refine RO.leq ?_|refine RO.Ak ?_|refine RO.aW ?_|refine RO.gw ?_|refine RO.extract ?_|refine RO.un ?_|refine RO.part ?_|refine RO.qC ?_|refine RO.j6 ?_|refine RO.build ?_|refine RO.iP ?_|refine RO.lT ?_|refine Ru.pp ?_|refine Ru.nI ?_|refine RO.tm ?_|refine RO.yg ?_|refine RO.B' ?_|refine RO.dG ?_|refine RO.sJ ?_|refine RO.Al ?_|refine RO.Am ?_));exact k.1):P:=h ⟨k⟩
theorem bD{P Q:Prop}(k:Q)(h:Kp Q->P:=by intro k;(repeat(first|refine RO.bg ?_|refine RO.j7 ?_|refine RO.Ae ?_|refine RO.lss ?_|refine RO.nil ?_|refine Ru.region ?_|refine Ru.seq ?_|refine Ru.block ?_|refine Ru.skip ?_|refine Ru.aH ?_|refine RO.Af ?_|refine RO.neq ?_|refine RO.Ag ?_|refine RO.eql ?_|refine RO.Ah ?_|refine RO.gtr ?_|refine RO.Ai ?_|refine RO.geq ?_|refine RO.Aj ?_|refine RO.leq ?_|refine RO.Ak ?_|refine RO.aW ?_|refine RO.gw ?_|refine RO.extract ?_|refine RO.un ?_|refine RO.part ?_|refine RO.qC ?_|refine RO.j6 ?_|refine RO.build ?_|refine RO.iP ?_|refine RO.lT ?_|refine Ru.pp ?_|refine Ru.nI ?_|refine RO.tm ?_|refine RO.yg ?_|refine RO.B' ?_|refine RO.dG ?_|refine RO.sJ ?_|refine RO.Al ?_|refine RO.Am ?_|refine RO.gU U 0 ?_|refine RO.gU U 1 ?_|refine RO.gU U 2 ?_|refine RO.gU U 3 ?_|refine RO.gU U 4 ?_|refine RO.aW ?_ (hc:=hat _ _ rfl)|refine RO.gw ?_ (hc:=hrd)|refine RO.iE ?_|refine RO.kH ?_));exact k.1):P:=h ⟨k⟩
theorem ah{P Q:Prop}(k:Q)(h:Kp Q->P:=by intro k;(repeat(first|refine RO.bg ?_|refine RO.j7 ?_|refine RO.Ae ?_|refine RO.lss ?_|refine RO.nil ?_|refine Ru.region ?_|refine Ru.seq ?_|refine Ru.block ?_|refine Ru.skip ?_|refine Ru.aH ?_|refine RO.Af ?_|refine RO.neq ?_|refine RO.Ag ?_|refine RO.eql ?_|refine RO.Ah ?_|refine RO.gtr ?_|refine RO.Ai ?_|refine RO.geq ?_|refine RO.Aj ?_|refine RO.leq ?_|refine RO.Ak ?_|refine RO.aW ?_|refine RO.gw ?_|refine RO.extract ?_|refine RO.un ?_|refine RO.part ?_|refine RO.qC ?_|refine RO.j6 ?_|refine RO.build ?_|refine RO.iP ?_|refine RO.lT ?_|refine Ru.pp ?_|refine Ru.nI ?_|refine RO.tm ?_|refine RO.yg ?_|refine RO.B' ?_|refine RO.dG ?_|refine RO.sJ ?_|refine RO.Al ?_|refine RO.Am ?_|refine RO.gU U 0 ?_|refine RO.gU U 1 ?_|refine RO.gU U 2 ?_|refine RO.gU U 3 ?_|refine RO.gU U 4 ?_|refine RO.aW ?_ (hc:=hat _ _ rfl)|refine RO.gw ?_ (hc:=hrd)|refine RO.iE ?_|refine RO.kH ?_|refine RO.nilCheck ?_|refine RO.Ca ?_|refine RO.Eh ?_));exact k.1):P:=h ⟨k⟩
theorem iS{P Q:Prop}(k:Q)(h:Kp Q->P:=by intro k;(repeat(first|refine RO.bg ?_|refine RO.j7 ?_|refine RO.Ae ?_|refine RO.lss ?_|refine RO.nil ?_|refine Ru.skip ?_|refine Ru.aH ?_|refine RO.Af ?_|refine RO.neq ?_|refine RO.Ag ?_|refine RO.eql ?_|refine RO.Ah ?_|refine RO.gtr ?_|refine RO.Ai ?_|refine RO.geq ?_|refine RO.Aj ?_|refine RO.leq ?_|refine RO.Ak ?_|refine RO.aW ?_|refine RO.gw ?_|refine RO.extract ?_|refine RO.un ?_|refine RO.part ?_|refine RO.qC ?_|refine RO.j6 ?_|refine RO.build ?_|refine RO.iP ?_|refine RO.lT ?_|refine Ru.pp ?_|refine Ru.nI ?_|refine RO.tm ?_|refine RO.yg ?_|refine RO.B' ?_|refine RO.dG ?_|refine RO.sJ ?_|refine RO.Al ?_|refine RO.Am ?_|refine RO.gU U 0 ?_|refine RO.gU U 1 ?_|refine RO.gU U 2 ?_|refine RO.gU U 3 ?_|refine RO.gU U 4 ?_|refine RO.aW ?_ (hc:=hat _ _ rfl)|refine RO.gw ?_ (hc:=hrd)|refine RO.iE ?_|refine RO.kH ?_|refine RO.nilCheck ?_|refine RO.Ca ?_|refine RO.Eh ?_));exact k.1):P:=h ⟨k⟩
theorem rR{P Q:Prop}(k:Q)(h:Kp Q->P:=by intro k;(first|refine RO.bg ?_|refine RO.j7 ?_|refine RO.Ae ?_|refine RO.lss ?_|refine RO.nil ?_|refine Ru.region ?_|refine Ru.seq ?_|refine Ru.block ?_|refine Ru.skip ?_|refine Ru.aH ?_|refine RO.Af ?_|refine RO.neq ?_|refine RO.Ag ?_|refine RO.eql ?_|refine RO.Ah ?_|refine RO.gtr ?_|refine RO.Ai ?_|refine RO.geq ?_|refine RO.Aj ?_|refine RO.leq ?_|refine RO.Ak ?_|refine RO.aW ?_|refine RO.gw ?_|refine RO.extract ?_|refine RO.un ?_|refine RO.part ?_|refine RO.qC ?_|refine RO.j6 ?_|refine RO.build ?_|refine RO.iP ?_|refine RO.lT ?_|refine Ru.pp ?_|refine Ru.nI ?_|refine RO.tm ?_|refine RO.yg ?_|refine RO.B' ?_|refine RO.dG ?_|refine RO.sJ ?_|refine RO.Al ?_|refine RO.Am ?_|refine RO.gU U 0 ?_|refine RO.gU U 1 ?_|refine RO.gU U 2 ?_|refine RO.gU U 3 ?_|refine RO.gU U 4 ?_|refine RO.aW ?_ (hc:=hat _ _ rfl)|refine RO.gw ?_ (hc:=hrd)|refine RO.iE ?_|refine RO.kH ?_|refine RO.nilCheck ?_|refine RO.Ca ?_|refine RO.Eh ?_);exact k.1):P:=h ⟨k⟩
end Go.am.R
namespace Go.am
section
variable{ac:Nat->aG}{c:Cx}{s:List SI}{L:Kn}{H:ai}{d:Option ab}{l:List be}
theorem VZ{k:Nat}{n:Int}(h:(ck k).wrap n=n):iJ k n=n:=by
 unfold iJ;split;·split;all_goals trivial
 .split;·rfl
  exact h
 .split;all_goals trivial
 trivial
theorem pY{n:Int}(h1: -9223372036854775808<=n)(h2:n<9223372036854775808):iJ 3 n=n:=by cases n with|ofNat m=>rw[aj5]at h2;have:akv m 9223372036854775808=true:=alN akY af;simp only[iJ,this,bq]|negSucc m=>have:akv m 9223372036854775808=true:=alN akY af;simp[this,iJ,bq]
theorem RO.bg{x:aJ}{v:AV}(h:RO ac c l s (bC L d v) H)(b:bf L x=v:=by exact cw)(e:v.bB=true:=by first|rfl|assumption):RO ac c (⟨d,.bg x,none,[],[]⟩::l) s L H:=RO.op (λaa a=>by simp only[aE,a.gv b e]) h
theorem RO.arith{op:BinOp}{k:Nat}{x y:aJ}{a b:Int}{v:AV}(h:RO ac c l s (bC L d v) H)(f:bf L x=.int k a:=by exact cw)(g:bf L y=.int k b:=by exact cw)(hv:iK op k a b=some v:=by exact cw):RO ac c (⟨d,.arith op k x y,none,[],[]⟩::l) s L H:=RO.op (λaa e=>by simp only[aE,e.gv f rfl,e.gv g rfl,A9,ald,alK,bq,hv,akt]) h
theorem RO.add{x y:aJ}{a b:Int}(h:RO ac c l s (bC L d (.int 3 (a+b))) H)(e:bf L x=.int 3 a:=by exact cw)(f:bf L y=.int 3 b:=by exact cw)(h1: -9223372036854775808<=a+b:=by omega)(h2:a+b<9223372036854775808:=by omega):RO ac c (⟨d,.arith .add 3 x y,none,[],[]⟩::l) s L H:=RO.arith h e f (by simp[h1,h2,iK,pY])
theorem RO.Ak{x:aJ}{a b:Nat}{y:aJ}(h:RO ac c l s (bC L d (.int 3 (.ofNat (a+b)))) H)(e:bf L x=.int 3 (.ofNat a):=by exact cw)(f:bf L y=.int 3 (.ofNat b):=by exact cw)(h2:a+b<9223372036854775808:=by omega):RO ac c (⟨d,.arith .add 3 x y,none,[],[]⟩::l) s L H:=RO.add (a:=.ofNat a) (b:=.ofNat b) h e f (by grind) (by grind)
theorem RO.sub{x y:aJ}{a b:Int}(h:RO ac c l s (bC L d (.int 3 (a - b))) H)(e:bf L x=.int 3 a:=by exact cw)(f:bf L y=.int 3 b:=by exact cw)(h1: -9223372036854775808<=a - b:=by omega)(h2:a - b<9223372036854775808:=by omega):RO ac c (⟨d,.arith .sub 3 x y,none,[],[]⟩::l) s L H:=RO.arith h e f (by simp[h1,h2,iK,pY])
theorem RO.eql{k:Nat}{x y:aJ}{a b:Int}(h:RO ac c l s (bC L d (.bool (decide (a=b)))) H)(e:bf L x=.int k a:=by exact cw)(f:bf L y=.int k b:=by exact cw):RO ac c (⟨d,.arith .eql k x y,none,[],[]⟩::l) s L H:=RO.arith h e f (by grind[iK,fQ])
theorem RO.neq{k:Nat}{x y:aJ}{a b:Int}(h:RO ac c l s (bC L d (.bool (decide (a≠b)))) H)(e:bf L x=.int k a:=by exact cw)(f:bf L y=.int k b:=by exact cw):RO ac c (⟨d,.arith .neq k x y,none,[],[]⟩::l) s L H:=RO.arith h e f (by simp only[iK,fQ];grind)
theorem RO.lss{k:Nat}{x y:aJ}{a b:Int}(h:RO ac c l s (bC L d (.bool (decide (a<b)))) H)(e:bf L x=.int k a:=by exact cw)(f:bf L y=.int k b:=by exact cw):RO ac c (⟨d,.arith .lss k x y,none,[],[]⟩::l) s L H:=RO.arith h e f (by simp[iK,nG])
theorem RO.leq{k:Nat}{x y:aJ}{a b:Int}(h:RO ac c l s (bC L d (.bool (decide (a<=b)))) H)(e:bf L x=.int k a:=by exact cw)(f:bf L y=.int k b:=by exact cw):RO ac c (⟨d,.arith .leq k x y,none,[],[]⟩::l) s L H:=RO.arith h e f (by simp only[iK,nG];congr 2;grind)
theorem RO.gtr{k:Nat}{x y:aJ}{a b:Int}(h:RO ac c l s (bC L d (.bool (decide (b<a)))) H)(e:bf L x=.int k a:=by exact cw)(f:bf L y=.int k b:=by exact cw):RO ac c (⟨d,.arith .gtr k x y,none,[],[]⟩::l) s L H:=RO.arith h e f (by simp[iK,nG])
theorem RO.geq{k:Nat}{x y:aJ}{a b:Int}(h:RO ac c l s (bC L d (.bool (decide (b<=a)))) H)(e:bf L x=.int k a:=by exact cw)(f:bf L y=.int k b:=by exact cw):RO ac c (⟨d,.arith .geq k x y,none,[],[]⟩::l) s L H:=RO.arith h e f (by simp only[iK,nG];congr 2;grind)
theorem RO.Ae{k:Nat}{x y:aJ}{a b:Nat}(h:RO ac c l s (bC L d (.bool (decide (a<b)))) H)(e:bf L x=.int k (.ofNat a):=by exact cw)(f:bf L y=.int k (.ofNat b):=by exact cw):RO ac c (⟨d,.arith .lss k x y,none,[],[]⟩::l) s L H:=RO.lss (a:=.ofNat a) (b:=.ofNat b) (by simp_all) e f
theorem RO.Aj{k:Nat}{x y:aJ}{a b:Nat}(h:RO ac c l s (bC L d (.bool (decide (a<=b)))) H)(e:bf L x=.int k (.ofNat a):=by exact cw)(f:bf L y=.int k (.ofNat b):=by exact cw):RO ac c (⟨d,.arith .leq k x y,none,[],[]⟩::l) s L H:=RO.leq (a:=.ofNat a) (b:=.ofNat b) (by simp_all) e f
theorem RO.Ah{k:Nat}{x y:aJ}{a b:Nat}(h:RO ac c l s (bC L d (.bool (decide (b<a)))) H)(e:bf L x=.int k (.ofNat a):=by exact cw)(f:bf L y=.int k (.ofNat b):=by exact cw):RO ac c (⟨d,.arith .gtr k x y,none,[],[]⟩::l) s L H:=RO.gtr (a:=.ofNat a) (b:=.ofNat b) (by simp_all) e f
theorem RO.Ai{k:Nat}{x y:aJ}{a b:Nat}(h:RO ac c l s (bC L d (.bool (decide (b<=a)))) H)(e:bf L x=.int k (.ofNat a):=by exact cw)(f:bf L y=.int k (.ofNat b):=by exact cw):RO ac c (⟨d,.arith .geq k x y,none,[],[]⟩::l) s L H:=RO.geq (a:=.ofNat a) (b:=.ofNat b) (by simp_all) e f
theorem RO.Ag{k:Nat}{x y:aJ}{a b:Nat}(h:RO ac c l s (bC L d (.bool (decide (a=b)))) H)(e:bf L x=.int k (.ofNat a):=by exact cw)(f:bf L y=.int k (.ofNat b):=by exact cw):RO ac c (⟨d,.arith .eql k x y,none,[],[]⟩::l) s L H:=RO.eql (a:=.ofNat a) (b:=.ofNat b) (by rw[show decide (ak1 a=ak1 b)=decide (a=b)from decide_eq_decide.2 ⟨λh=>Int.ofNat.inj h,λh=>congrArg _ h⟩];exact h) e f
theorem RO.Af{k:Nat}{x y:aJ}{a b:Nat}(h:RO ac c l s (bC L d (.bool (decide (a≠b)))) H)(f:bf L x=.int k (.ofNat a):=by exact cw)(g:bf L y=.int k (.ofNat b):=by exact cw):RO ac c (⟨d,.arith .neq k x y,none,[],[]⟩::l) s L H:=RO.neq (a:=.ofNat a) (b:=.ofNat b) (by rw[show decide (ak1 a≠ak1 b)=decide (a≠b)from decide_eq_decide.2 ⟨λh e=>h (congrArg _ e),λh e=>h (Int.ofNat.inj e)⟩];exact h) f g
theorem RO.un{op:UnOp}{x:aJ}{w v:AV}(h:RO ac c l s (bC L d v) H)(b:bf L x=w:=by exact cw)(e:w.bB=true:=by first|rfl|assumption)(f:Df op w=some v:=by exact cw):RO ac c (⟨d,.unary op x,none,[],[]⟩::l) s L H:=RO.op (λaa a=>by simp only[aE,a.gv b e,f,akt]) h
theorem RO.eq{f:Bool}{e:eE}{x y:aJ}{a b:AV}{t:Bool}(h:RO ac c l s (bC L d (.bool (t !=f))) H)(i:bf L x=a:=by exact cw)(j:a.bB=true:=by first|rfl|assumption)(k:bf L y=b:=by exact cw)(hb:b.bB=true:=by first|rfl|assumption)(ht:eA 64 e a b=some t:=by first|assumption|rfl):RO ac c (⟨d,.eq f e x y,none,[],[]⟩::l) s L H:=RO.op (λaa g=>by simp only[aE,g.gv i j,g.gv k hb,ht,akt]) h
theorem RO.aW{x:aJ}{i:ab}{o:Nat}{v:AV}(h:RO ac c l s (bC L d v) H)(hx:bf L x=.az i o:=by exact cw)(hc:bh H i o=some v:=by assumption):RO ac c (⟨d,.aW x,none,[],[]⟩::l) s L H:=RO.op (λaa a=>jC (a.gv hx rfl) hc) h
theorem RO.gw{n:Nat}{x:aJ}{i:ab}{o:Nat}{b:List AV}(h:RO ac c l s (bC L d (.agg b)) H)(hx:bf L x=.az i o:=by exact cw)(hc:fE H i o n=some b:=by assumption):RO ac c (⟨d,.gw n x,none,[],[]⟩::l) s L H:=RO.op (λaa a=>by simp only[aE,a.gv hx rfl,jp,hc,bq,akt]) h
theorem RO.store{n:Nat}{a x:aJ}{i:ab}{o:Nat}{v:AV}{H':ai}(e:iX H i o v.cells=some H')(h:RO ac c l s (bC L d .alR) H')(f:bf L a=.az i o:=by exact cw)(g:bf L x=v:=by exact cw)(j:v.bB=true:=by first|rfl|assumption)(k:v.cells.length=n:=by rfl):RO ac c (⟨d,.store n a x,none,[],[]⟩::l) s L H:=RO.op (λaa b=>by simp only[aE,b.gv f rfl,b.gv g j,k,bq,e]) h
theorem RO.dG{size:Nat}{x y:aJ}{i:ab}{o n b j k:Nat}{e:Bool}(h:RO ac c l s (bC L d (.az i (o+j*size))) H)(f:bf L x=.slice i o n b e:=by exact cw)(g:bf L y=.int k (.ofNat j):=by exact cw)(hj:j<n:=by omega):RO ac c (⟨d,.dG size x y,none,[],[]⟩::l) s L H:=RO.op (λaa a=>by have:akv j n=true:=alN akY hj;simp only[aE,a.gv f rfl,a.gv g rfl,this,bq]) h
theorem RO.j6{off:Nat}{x:aJ}{i:ab}{o:Nat}(h:RO ac c l s (bC L d (.az i (o+off))) H)(b:bf L x=.az i o:=by exact cw):RO ac c (⟨d,.j6 off x,none,[],[]⟩::l) s L H:=RO.op (λaa a=>by simp only[aE,a.gv b rfl]) h
theorem RO.part{agg:Bool}{off size:Nat}{x:aJ}{b:List AV}{v:AV}(h:RO ac c l s (bC L d v) H)(e:bf L x=.agg b:=by exact cw)(f:uo agg b off size=some v:=by exact cw):RO ac c (⟨d,.part agg off size x,none,[],[]⟩::l) s L H:=RO.op (λaa a=>by simp only[aE,a.gv e rfl,f,akt]) h
theorem RO.extract{x:aJ}{i:Nat}{b:List AV}{v:AV}(h:RO ac c l s (bC L d v) H)(e:bf L x=.tuple b:=by exact cw)(f:qF b i=some v:=by exact cw):RO ac c (⟨d,.extract x i,none,[],[]⟩::l) s L H:=RO.op (λaa a=>by simp only[aE,a.gv e rfl,f,akt]) h
def lenOf:AV->Option Nat
 |.slice _ _ n _ _=>some n
 |.aS=>some 0
 |_=>none
theorem RO.j7{x:aJ}{v:AV}{n:Nat}(h:RO ac c l s (bC L d (.int 3 (.ofNat n))) H)(b:bf L x=v:=by exact cw)(e:lenOf v=some n:=by first|rfl|assumption):RO ac c (⟨d,.j7 x,none,[],[]⟩::l) s L H:=RO.op (λaa a=>by
 have hd:v.bB=true:=by cases v<;>first|rfl|cases e
 simp only[aE,a.gv b hd];grind[lenOf,adG,reduceCtorEq]) h
theorem RO.box{e:Nat}{x:aJ}{v:AV}(h:RO ac c l s (bC L d (.az H.next 0)) (H.new (.cells (db v.cells) v.cells.length e true [] 0)))(b:bf L x=v:=by exact cw)(f:v.bB=true:=by first|rfl|assumption)(g:dS v.cells=true:=by rfl):RO ac c (⟨d,.box e x,none,[],[]⟩::l) s L H:=RO.op (λaa a=>by simp only[aE,a.gv b f,g,bq]) h
theorem RO.alloc{e:Nat}{a:List AV}(h:RO ac c l s (bC L d (.az H.next 0)) (H.new (.cells (db a) a.length e true [] 0))):RO ac c (⟨d,.alloc e a,none,[],[]⟩::l) s L H:=RO.op (λaa b=>by rfl) h
def qO(L:Kn)(l:List AV):List (Nat×Nat×aJ)->Option (List AV)
 |[]=>some l
 |(off,size,x)::a=>
  let b:=(bf L x).cells
  if(bf L x).bB&&decide (b.length=size)then(match uq l off b with|some c=>qO L c a|none=>none)else none
theorem HR{aa:ap AV}(a:Le L aa):∀{f:List (Nat×Nat×aJ)}{c d:List AV},qO L c f=some d->oI aa c f=some d
 |[],c,d,h=>by trivial
 |(off,size,x)::i,c,d,h=>by
  simp only[qO]at h;split at h
  .rename_i g;have b:=g;simp only[aj6]at b;have e:=a.gv (x:=x) rfl b.1;simp only[oI];rw[e,aK g];split at h;·rename_i h2;rw[h2];exact HR a h
   grind
  grind
theorem RO.build{a vs:List AV}{b:List (Nat×Nat×aJ)}(h:RO ac c l s (bC L d (.agg vs)) H)(hl:qO L a b=some vs:=by exact cw):RO ac c (⟨d,.build a b,none,[],[]⟩::l) s L H:=RO.op (λaa e=>by grind[aE,HR]) h
theorem RO.buildSlice{e n:Nat}{b vs:List AV}{f:List (Nat×Nat×aJ)}(h:RO ac c l s (bC L d (.slice H.next 0 n n true)) (H.new (.cells (db vs) vs.length e true [] 0)))(hl:qO L (fO b n) f=some vs:=by exact cw)(g:dS vs=true:=by rfl):RO ac c (⟨d,.buildSlice e n b f,none,[],[]⟩::l) s L H:=RO.op (λaa a=>by simp only[aE,HR a hl,g,bq]) h
theorem RO.iP{f:Nat}{a b:List aJ}{g bv:List AV}(h:RO ac c l s (bC L d (.func f g bv)) H)(j:a.map (bf L)=g:=by rfl)(i:g.all AV.bB=true:=by rfl)(hb:b.map (bf L)=bv:=by rfl)(k:bv.all AV.bB=true:=by rfl):RO ac c (⟨d,.iP f a b,none,[],[]⟩::l) s L H:=RO.op (λaa m=>by
 have e:∀{a:List aJ}{g:List AV},a.map (bf L)=g->g.all AV.bB=true->a.map (gv aa)=g:=λ{a g}j i=>by subst j;exact alk λx n=>m.gv rfl (aln.1 i _ (akp n))
 simp[e,j,i,hb,k,aE]) h
theorem RO.jK(h:RO ac c l s (bC L d (.map H.next)) (H.new (.map [] 0))):RO ac c (⟨d,.jK,none,[],[]⟩::l) s L H:=RO.op (λaa a=>by rfl) h
theorem RO.lT{t:Nat}{x:aJ}{v:AV}(h:RO ac c l s (bC L d (.iface t v)) H)(b:bf L x=v:=by exact cw)(e:v.bB=true:=by first|rfl|assumption):RO ac c (⟨d,.lT t x,none,[],[]⟩::l) s L H:=RO.op (λaa a=>by simp only[aE,a.gv b e]) h
theorem RO.jL{e bytes size:Nat}{b:List AV}{x y:aJ}{n k:Nat}(h:RO ac c l s (bC L d (.slice H.next 0 n k true)) (H.new (.cells (db (fO b k)) (k*size) e true [] 0)))(f:bf L x=.int 3 (.ofNat n):=by exact cw)(g:bf L y=.int 3 (.ofNat k):=by exact cw)(i:n<=k:=by omega)(hb:k*bytes<=70368744177664:=by omega)(j:k<=70368744177664:=by omega):RO ac c (⟨d,.jL e bytes size b x y,none,[],[]⟩::l) s L H:=RO.op (λaa a=>by
 have h1:(ak2 n k&&fw (k*bytes)&&fw k)=true:=by simp only[fw,aj6];exact⟨⟨akB i,akB hb⟩,akB j⟩
 simp only[aE,a.gv f rfl,a.gv g rfl,h1,bq]) h
theorem RO.append{e bytes size:Nat}{j:List AV}{x y:aJ}{b f:AV}{n:Nat}{i:List AV}{r:AV×ai}(k:je H size f=some (n,i))(m:kI e bytes size H b n i=some r)(h:RO ac c l s (bC L d r.1) r.2)(o:bf L x=b:=by exact cw)(hs:b.bB=true:=by first|rfl|assumption)(p:bf L y=f:=by exact cw)(g:f.bB=true:=by first|rfl|assumption):RO ac c (⟨d,.append e bytes size j false x y,none,[],[]⟩::l) s L H:=RO.op (λaa a=>by simp only[aE,aes,bP,a.gv o hs,a.gv p g,k,m]) h
theorem RO.nilCheck{x:aJ}{v:AV}(h:RO ac c l s (bC L d v) H)(e:bf L x=v:=by exact cw)(b:(match v with|.az .. |.func .. |.yield _|.iface .. |.map _|.slice .. =>true|_=>false)=true:=by first|rfl|assumption):RO ac c (⟨d,.nilCheck x,none,[],[]⟩::l) s L H:=RO.op (λaa a=>by
 have hd:v.bB=true:=by cases v<;>first|rfl|cases b
 simp only[aE,a.gv e hd];cases v<;>first|rfl|cases b) h
theorem RO.qD{a:Bool}{f:List aJ}{v r:AV}{b:List AV}(h:RO ac c l s (bC L d r) H)(j:f.map (bf L)=v::b:=by rfl)(hd:(v::b).all AV.bB=true:=by first|rfl|assumption)(hr:zf a v b=some r:=by exact cw):RO ac c (⟨d,.qD a f,none,[],[]⟩::l) s L H:=RO.op (λaa g=>by
 have e:f.map (gv aa)=v::b:=by rw[<-j];refine alk λx i=>g.gv rfl ?_;rw[<-j]at hd;exact aln.1 hd _ (akp i)
 simp[e,hr,aE,akt]) h
def l7(L:Kn)(x:Option aJ)(d y:Nat):Option Nat:=
 match x with
 |some x=>oJ (bf L x) y
 |none=>some d
theorem An{aa:ap AV}(a:Le L aa){x:Option aJ}{d y n:Nat}(h:l7 L x d y=some n):jz aa x d y=some n:=by cases x with|none=>exact h|some x=>simp only[l7]at h;simp only[jz];rw[a.gv (x:=x) rfl (by cases hg:bf L x<;>rw[hg]at h<;>first|rfl|cases h)];exact h
theorem RO.im{e size:Nat}{x:aJ}{lo hi g:Option aJ}{i:ab}{o n j:Nat}{ex:Bool}{a b m:Nat}(k:bf L x=.slice i o n j ex)(p:l7 L g j j=some m)(hb:l7 L hi n m=some b)(q:l7 L lo 0 b=some a)(he:(ex||g.isSome||lo.isNone||sM H i e)=true)(h:RO ac c l s (bC L d (.slice i (if ex&&decide (m=a)then o else o+a*size) (b - a) (m - a) (ex||g.isSome))) H):RO ac c (⟨d,.im e size x lo hi g,none,[],[]⟩::l) s L H:=RO.op (λaa f=>by simp only[aE,f.gv k rfl,An f p,An f hb,An f q,ae5,alr,he,bq]) h
theorem RO.Cb{e size:Nat}{x:aJ}{lo hi g:Option aJ}{a b m:Nat}(i:bf L x=.aS)(j:l7 L g 0 0=some m)(hb:l7 L hi 0 m=some b)(k:l7 L lo 0 b=some a)(h:RO ac c l s (bC L d .aS) H):RO ac c (⟨d,.im e size x lo hi g,none,[],[]⟩::l) s L H:=RO.op (λaa f=>by simp only[aE,f.gv i rfl,An f j,An f hb,An f k,ae5,alr]) h
theorem RO.kX{k m:Nat}{x:aJ}{a:Int}(h:RO ac c l s (bC L d (.int k (iJ k a))) H)(e:bf L x=.int m a:=by exact cw):RO ac c (⟨d,.kX k x,none,[],[]⟩::l) s L H:=RO.op (λaa b=>by simp only[aE,b.gv e rfl]) h
theorem RO.copy{size:Nat}{x y:aJ}{i:ab}{o n g:Nat}{ex:Bool}{b:AV}{m:Nat}{f:List AV}{H':ai}(j:bf L x=.slice i o n g ex)(k:bf L y=b)(e:b.bB=true)(p:je H size b=some (m,f))(q:min m n≠0)(r:iX H i o (f.take (min m n*size))=some H')(h:RO ac c l s (bC L d (.int 3 (.ofNat (min m n)))) H'):RO ac c (⟨d,.copy size x y,none,[],[]⟩::l) s L H:=RO.op (λaa a=>by simp only[aE,a.gv j rfl,a.gv k e,p,aq q,r]) h
theorem RO.Nx{size:Nat}{x y:aJ}{xv b:AV}{m:Nat}{f:List AV}(g:bf L x=xv)(i:bf L y=b)(e:b.bB=true)(j:je H size b=some (m,f))(k:∃n,lenOf xv=some n/\min m n=0)(h:RO ac c l s (bC L d (.int 3 (.ofNat 0))) H):RO ac c (⟨d,.copy size x y,none,[],[]⟩::l) s L H:=RO.op (λaa a=>by
 obtain⟨n,h1,h2⟩:=k;have hd:xv.bB=true:=by cases xv<;>first|rfl|cases h1
 simp only[aE,a.gv g hd,a.gv i e,j];cases xv<;>simp only[lenOf,adG,reduceCtorEq]at h1;all_goals grind) h
theorem RO.typeAssert{t u:Nat}{zero:AV}{x:aJ}{v:AV}(b:bf L x=.iface u v)(hu:akb u t=true)(h:RO ac c l s (bC L d v) H):RO ac c (⟨d,.typeAssert t zero false x,none,[],[]⟩::l) s L H:=RO.op (λaa a=>by simp only[aE,a.gv b rfl,hu,bq,aes,bP]) h
theorem RO.iE{op:BinOp}{x y:aJ}{a b:AV}{v:AV}(h:RO ac c l s (bC L d v) H)(f:bf L x=a:=by exact cw)(g:a.bB=true:=by first|rfl|assumption)(i:bf L y=b:=by exact cw)(hb:b.bB=true:=by first|rfl|assumption)(j:Ba op a b=some v:=by exact cw):RO ac c (⟨d,.iE op x y,none,[],[]⟩::l) s L H:=RO.op (λaa e=>by simp only[aE,e.gv f g,e.gv i hb,j,akt]) h
theorem RO.kH{x:aJ}{t:List Nat}(h:RO ac c l s (bC L d (.int 3 (.ofNat t.length))) H)(b:bf L x=.str t:=by exact cw):RO ac c (⟨d,.kH x,none,[],[]⟩::l) s L H:=RO.op (λaa a=>by simp only[aE,a.gv b rfl]) h
theorem RO.yg{op:bW}{g:ab}{w b:Bool}{hd:List ab}{re:List jo}(h:RO ac c l s (bC L d .alR) H)(hg:bf L (.t g)=.bool b:=by exact cw)(hb:b≠w:=by decide):RO ac c (⟨d,op,some (g,w),hd,re⟩::l) s L H:=λaa a=>by obtain⟨n,f⟩:=h _ (a.set d .alR);refine⟨n+1,?_⟩;have e:aa.get .alR g=.bool b:=a.get hg rfl;simp[hb,e,f,Xo,Go.am.aC,fF,lX,aes,bP,AV.bB,bq]
theorem RO.tm{op:bW}{g:ab}{w:Bool}{hd:List ab}{re:List jo}(h:RO ac c (⟨d,op,none,hd,re⟩::l) s L H)(hg:bf L (.t g)=.bool w:=by exact cw):RO ac c (⟨d,op,some (g,w),hd,re⟩::l) s L H:=λaa a=>by obtain⟨n,b⟩:=h aa a;refine⟨n,?_⟩;have e:aa.get .alR g=.bool w:=a.get hg rfl;cases n with|zero=>trivial|succ n=>simp_all[Xo,Go.am.aC,fF,beq_self_eq_true,bq]
end
section
theorem yh{c:ap AV}{n:Nat}:∀{l:List AV}{o:Nat},o+l.length<=n->(∀i(h:i<l.length),c.bw .alR (o+i)=l[i])->iI c n o l.length=some l
 |[],o,_,_=>by rfl
 |z::l,o,h,hg=>by
  simp only[akA,iI];have h0:c.bw .alR o=z:=hg 0 aB;have a:o<n:=by simp at h;omega
  have b:=yh (c:=c) (n:=n) (l:=l) (o:=o+1) (by simp at h;omega) (λi hi=>by have:=hg (i+1) (by simpa using hi);rw[show o+(i+1)=o+1+i by omega]at this;simpa using this);grind
def Sl(H:ai)(size:Nat)(vs:List AV)(n:Nat)(sv:AV):Prop:=
 (sv=.aS/\n=0/\vs=[])\/∃i o cap ex c m e rw aM fz,sv=.slice i o n cap ex/\H.get i=.cells c m e rw aM fz/\o+n*size<=m/\vs.length=n*size/\(∀j(h:j<vs.length),c.bw .alR (o+j)=vs[j])/\i.an<H.next.an/\n<=cap
variable{H H':ai}{size n e bytes:Nat}{vs ws:List AV}{sv:AV}
theorem Sl.length(h:Sl H size vs n sv):vs.length=n*size:=by rcases h with⟨_,rfl,rfl⟩|⟨_,_,_,_,_,_,_,_,_,_,_,_,_,h,_⟩;all_goals grind
theorem Sl.bB(h:Sl H size vs n sv):sv.bB=true:=by rcases h with⟨rfl,_⟩|⟨_,_,_,_,_,_,_,_,_,_,rfl,_⟩<;>rfl
theorem Sl.ee(h:Sl H size vs n sv):sv.ee=true:=by rcases h with⟨rfl,_⟩|⟨_,_,_,_,_,_,_,_,_,_,rfl,_⟩<;>rfl
theorem Sl.cells(h:Sl H size vs n sv):sv.cells=[sv]:=by rcases h with⟨rfl,_⟩|⟨_,_,_,_,_,_,_,_,_,_,rfl,_⟩<;>rfl
theorem Sl.len(h:Sl H size vs n sv):lenOf sv=some n:=by rcases h with⟨rfl,rfl,_⟩|⟨_,_,_,_,_,_,_,_,_,_,rfl,_⟩<;>rfl
theorem Sl.je(h:Sl H size vs n sv):je H size sv=some (n,vs):=by rcases h with⟨rfl,rfl,rfl⟩|⟨i,o,cap,ex,c,m,e,a,aM,fz,rfl,hg,b,hl,d,_⟩;all_goals grind[yh,Go.am.je,fE]
theorem Sl.frame(h:Sl H size vs n sv)(g:H.next.an<=H'.next.an)(k:∀j:ab,j.an<H.next.an->H'.get j=H.get j):Sl H' size vs n sv:=by
 rcases h with h|⟨i,o,cap,ex,c,m,e,b,aM,fz,h1,hg,d,hl,f,hi,a⟩;·exact .inl h
 exact .inr ⟨i,o,cap,ex,c,m,e,b,aM,fz,h1,by grind,d,hl,f,af,a⟩
theorem Sl.at(h:Sl H size vs n sv)(g:0<n):∃i o cap ex,sv=.slice i o n cap ex/\n<=cap/\i.an<H.next.an/\(∀j(hj:j<vs.length),bh H i (o+j)=some vs[j])/\∀j k,(j+k)<=vs.length->fE H i (o+j) k=some ((vs.drop j).take k):=by
 rcases h with⟨_,rfl,_⟩|⟨i,o,cap,ex,c,m,e,d,aM,fz,h1,hg,l,hl,b,hi,a⟩;·omega
 refine⟨i,o,cap,ex,h1,a,hi,λj hj=>?_,λj k f=>?_⟩;·have hb:akv (o+j) m=true:=alN akY af;simp[hg,hb,b,hj,bh,bq]
 grind[yh,akF,alC,alo,aly,fE]
def dU(H:ai)(fp:List ab)(e size:Nat)(vs:List AV)(n:Nat)(full:Bool)(sv:AV):Prop:=
 (fp=[]/\vs=[]/\n=0/\sv=.aS)\/
 ∃i c aM cap ex,fp=i::aM/\sv=.slice i 0 n cap ex/\H.get i=.cells c (cap*size) e true aM 0/\n<=cap/\vs.length=n*size/\(∀j(h:j<vs.length),c.bw .alR j=vs[j])/\(∀p∈fp,p.an<H.next.an)/\(full=true->ex=true\/n=cap)
variable{fp:List ab}{full:Bool}
theorem dU.sl(h:dU H fp e size vs n full sv):Sl H size vs n sv:=by
 rcases h with⟨_,rfl,rfl,rfl⟩|⟨i,c,aM,cap,ex,rfl,rfl,hg,a,hl,d,b,_⟩;·exact .inl ⟨rfl,rfl,rfl⟩
 refine .inr ⟨i,0,cap,ex,c,_,e,true,aM,0,rfl,hg,?_,hl,λj hj=>by grind,b i (aeU ..),a⟩;simp[a,akh,aky]
theorem dU.frame(h:dU H fp e size vs n full sv)(f:H.next.an<=H'.next.an)(l:∀j∈fp,H'.get j=H.get j):dU H' fp e size vs n full sv:=by
 rcases h with h|⟨i,c,aM,cap,ex,rfl,rfl,hg,b,hl,g,k,a⟩;·exact .inl h
 exact .inr ⟨i,c,aM,cap,ex,rfl,rfl,by grind,b,hl,g,λp d=>ako (k p d) f,a⟩
structure bm(H H':ai):Prop where
 nx:H.next.an<=H'.next.an
 dT:∀j:ab,j.an<H.next.an->H'.get j=H.get j
theorem bm.refl(H:ai):bm H H:=⟨afb _,λ_ _=>rfl⟩
theorem bm.trans{A B C:ai}(h:bm A B)(k:bm B C):bm A C:=⟨alj h.nx k.nx,λj hj=>(k.dT j (ako hj h.nx)).trans (h.dT j hj)⟩
theorem ai.nK(H:ai)(o:cq):(H.new o).next.an=H.next.an+1:=ab.gK _
theorem bm.new(H:ai)(o:cq):bm H (H.new o):=⟨by rw[ai.nK];omega,λj hj=>by rw[ai.dJ,aq (cG af)]⟩
theorem bm.sl(h:bm H H')(k:Sl H size vs n sv):Sl H' size vs n sv:=k.frame h.nx h.dT
theorem bm.bh(h:bm H H'){i:ab}(hi:i.an<H.next.an)(o:Nat):bh H' i o=Go.am.bh H i o:=pW (h.dT i hi) o
theorem dU.below(h:dU H fp e size vs n full sv):∀j∈fp,j.an<H.next.an:=by rcases h with⟨rfl,_⟩|⟨_,_,_,_,_,_,_,_,_,_,_,a,_⟩;all_goals grind
theorem HS:∀{l:List AV},dS l=true↔∀v∈l,v.ee=true|[]=>by trivial|a::l=>by simp[dS,HS (l:=l)]
theorem ww{n:Nat}(h:n<=70368744177664):fw n=true:=akB h
theorem Ao{l:List AV}{j:Nat}(h:j<l.length):(db l).bw .alR j=l[j]:=by simp[h,pR,akm]
theorem dU.new{vs:List AV}(b:vs.length=n*size)(ex full:Bool):dU (H.new (.cells (db vs) (n*size) e true [] 0)) [H.next] e size vs n full (.slice H.next 0 n n ex):=.inr ⟨H.next,db vs,[],n,ex,rfl,rfl,by rw[ai.dJ,aK rfl],afb _,b,λj hj=>Ao hj,λp a=>by rw[aep]at a;subst a;rw[ai.nK];omega,λ_=>.inr rfl⟩
theorem dU.append(h:dU H fp e size vs n true sv){k:Nat}(r:ws.length=k*size)(h1:dS ws=true)(hb:(n+k)*bytes<=70368744177664)(hs:n+k<=70368744177664):∃t H' fp',kI e bytes size H sv k ws=some (t,H')/\dU H' fp' e size (vs++ws) (n+k) true t/\H.next.an<=H'.next.an/\(∀j∈fp',j∈fp\/(H.next.an<=j.an/\j.an<H'.next.an))/\∀j:ab,j∉fp->j.an<H.next.an->H'.get j=H.get j:=by
 rcases h with⟨rfl,rfl,rfl,rfl⟩|⟨i,c,aM,cap,ex,rfl,rfl,hg,g,hl,w,v,a⟩
 .by_cases s:k=0;·subst s;have l:ws=[]:=akM af;subst l;refine⟨.aS,H,[],by simp[kI,dS],.inl ⟨rfl,rfl,rfl,rfl⟩,afb _,λj hj=>(by cases hj),λ_ _ _=>rfl⟩
  have m:akb k 0=false:=by cases h:akb k 0 with|false=>rfl|true=>exact absurd (aj4 h) s
  refine⟨.slice H.next 0 k k false,H.new (.cells (db ws) (k*size) e true [] 0),[H.next],?_,?_,?_,?_,?_⟩;·rw[akh]at hb hs;simp only[kI,h1,aku,aes,bP,m,ww hb,ww hs,alK,bq]
  .rw[akh];exact dU.new r false true
  .exact(bm.new H _).nx
  .intro j hj;rw[aep]at hj;subst hj;right;rw[ai.nK];omega
  intro j _ hj;exact(bm.new H _).dT j hj
 by_cases b:n+k<=cap
 .have d:ak2 (n+k) cap=true:=akB b;by_cases s:k=0
  .subst s;have l:ws=[]:=akM af;subst l;refine⟨.slice i 0 (n+0) cap ex,H,i::aM,?_,?_,afb _,λj hj=>.inl hj,λ_ _ _=>rfl⟩;·simp only[kI,h1,aku,aes,bP,d,bq,ald]
   exact .inr ⟨i,c,aM,cap,ex,rfl,rfl,hg,g,by simpa using hl,by simpa using w,v,a⟩
  have m:akb k 0=false:=by cases h:akb k 0 with|false=>rfl|true=>exact absurd (aj4 h) s
  have z:n*size+ws.length<=cap*size:=by rw[r,<-alB];exact aky _ b
  have x:iX H i (0+n*size) ws=some ((H.gh aM).set i (.cells (fX c (0+n*size) ws) (cap*size) e true [] 0)):=by
   have hd:(decide (0<=0+n*size)&&decide (0+n*size+ws.length<=cap*size)&&dS ws)=true:=by simp only[aj6,decide_eq_true_eq,h1,and_true];omega
   simp only[iX,hg,hd,bq]
  refine⟨.slice i 0 (n+k) cap ex,(H.gh aM).set i (.cells (fX c (0+n*size) ws) (cap*size) e true [] 0),[i],by simp only[kI,h1,aku,aes,bP,d,bq,m,x],?_,?_,?_,?_⟩
  .refine .inr ⟨i,fX c (0+n*size) ws,[],cap,ex,rfl,rfl,by rw[ai.aF,aK rfl],b,by rw[aj8,hl,r,alB],λj hj=>?_,λp f=>?_,λA=>?_⟩
   .rw[nD];rw[aj8]at hj;by_cases o:j<vs.length;·rw[aq af,w j o,List.getElem_append_left o]
    rw[aK af,List.getElem_append_right af];have:j - (0+n*size)<ws.length:=af;simp only[akm,this,getElem?_pos,akQ];congr 1;omega
   .rw[aep]at f;subst f;rw[ai.gD,ai.kf];exact v _ (aeU ..)
   rcases a A with h|h;·exact .inl h
   right;omega
  .rw[ai.gD,ai.kf];exact afb _
  .intro j hj;rw[aep]at hj;subst hj;exact .inl (aeU ..)
  intro j hj _;rw[ai.aF,aq λe:j=i=>hj (by rw[e];exact aeU ..),ai.xy,aq λe=>hj (aey _ e)]
 have d:ak2 (n+k) cap=false:=by cases h:ak2 (n+k) cap with|false=>rfl|true=>exact absurd (akc h) b
 have hrd:iI c (cap*size) 0 (n*size)=some vs:=by have:=yh (c:=c) (n:=cap*size) (l:=vs) (o:=0) (by rw[akh,hl];exact aky _ g) (λj hj=>by rw[akh];exact w j hj);rw[hl]at this;exact this
 have u:(!(fw ((n+k)*bytes)&&fw (n+k)))=false:=by rw[ww hb,ww hs];rfl
 cases ex with
 |true=>
  refine⟨.slice H.next 0 (n+k) (n+k) false,H.new (.cells (db (vs++ws)) ((n+k)*size) e true [] 0),[H.next],by simp only[kI,h1,aku,aes,bP,d,u,hg,hrd,bq],?_,(bm.new H _).nx,?_,λj _ hj=>(bm.new H _).dT j hj⟩;·exact dU.new (by rw[aj8,hl,r,alB]) false true
  intro j hj;rw[aep]at hj;subst hj;right;rw[ai.nK];omega
 |false=>
  have y:n=cap:=by rcases a rfl with h|h;cases h;exact h
  subst y;have q:(true&&akb n n&&akb (0+n*size) (n*size)&&akb e e&&ak2 0 (n*size))=true:=by simp[ald]
  have B:i.an<H.next.an:=v i (aeU ..);refine⟨.slice H.next 0 (n+k) (n+k) false,(H.set i (.cells c (n*size) e false aM 0)).new (.cells (db (vs++ws)) ((n+k)*size) e true (i::aM) 0),H.next::i::aM,by simp only[kI,h1,aku,aes,bP,d,u,hg,hrd,q,bq],?_,?_,?_,?_⟩
  .refine .inr ⟨H.next,db (vs++ws),i::aM,n+k,false,rfl,rfl,by rw[ai.dJ,ai.gD,aK rfl],afb _,by rw[aj8,hl,r,alB],λj hj=>Ao hj,λp f=>?_,λ_=>.inr rfl⟩;rw[ai.nK,ai.gD];rcases aeV.1 f with e|e;·subst e;omega
   have:=v p e;omega
  .rw[ai.nK,ai.gD];omega
  .intro j hj;rcases aeV.1 hj with e|e;·subst e;right;rw[ai.nK,ai.gD];omega
   exact .inl e
  intro j hj o;rw[ai.dJ,ai.gD,aq (cG af),ai.aF,aq λe:j=i=>hj (by rw[e];exact aeU ..)]
theorem RO.V0{ac:Nat->aG}{c:Cx}{s:List SI}{L:Kn}{d:Option ab}{l:List be}{g:List AV}{x y:aJ}{b:AV}{k:Nat}(f:dU H fp e size vs n true sv)(hs:Sl H size ws k b)(h1:dS ws=true)(h:∀a H' fp',dU H' fp' e size (vs++ws) (n+k) true a->H.next.an<=H'.next.an->(∀j∈fp',j∈fp\/(H.next.an<=j.an/\j.an<H'.next.an))->(∀j:ab,j∉fp->j.an<H.next.an->H'.get j=H.get j)->RO ac c l s (bC L d a) H')(i:bf L x=sv:=by exact cw)(m:bf L y=b:=by exact cw)(hb:(n+k)*bytes<=70368744177664:=by omega)(o:n+k<=70368744177664:=by omega):RO ac c (⟨d,.append e bytes size g false x y,none,[],[]⟩::l) s L H:=by obtain⟨a,H',fp',h2,h3,p,q,r⟩:=f.append (bytes:=bytes) hs.length h1 hb o;exact RO.append hs.je h2 (h a H' fp' h3 p q r) i f.sl.bB m hs.bB
end
section
variable{ac:Nat->aG}{c:Cx}{s:List SI}{L:Kn}{H:ai}{d:Option ab}{l:List be}
abbrev aI(z:Int):AV:=.int 3 z
abbrev aN(n:Nat):AV:=.int 3 (.ofNat n)
theorem qP(l:List Int):dS (l.map aI)=true:=HS.2 λv a=>by obtain⟨z,_,rfl⟩:=akk.1 a;rfl
abbrev fZ(H:ai)(l:List Int)(a:AV):Prop:=Sl H 1 (l.map aI) l.length a
theorem RO.V1{a:List Int}{b:AV}{x y:aJ}{j k:Nat}(hs:fZ H a b)(h:∀i o z,a[j]?=some z->bh H i o=some (aI z)->i.an<H.next.an->RO ac c l s (bC L d (.az i o)) H)(f:bf L x=b:=by exact cw)(g:bf L y=.int k (.ofNat j):=by exact cw)(hj:j<a.length:=by omega):RO ac c (⟨d,.dG 1 x y,none,[],[]⟩::l) s L H:=by obtain⟨i,o,m,e,rfl,h1,h2,h3,n⟩:=hs.at af;refine RO.dG (h i (o+j*1) a[j] (getElem?_pos a j hj) ?_ h2) f g hj;grind
theorem RO.Ei{op:bW}{hd:List ab}{re:List jo}{v:AV}{H':ai}(g:∀f a,op≠.call f a)(e:∀a,op≠.lU a)(he:∀aa,Le L aa->∃H1,aE op aa (eV aa H hd).1=some (v,H1)/\eB H1 (eV aa H hd).2=H')(i:∀aa,Le (bC L d v) aa->fG aa H' re=true)(h:RO ac c l s (bC L d v) H'):RO ac c (⟨d,op,none,hd,re⟩::l) s L H:=λaa b=>by obtain⟨n,j⟩:=h _ (b.set d v);obtain⟨H1,h1,h2⟩:=he aa b;have h3:=i _ (b.set d v);refine⟨n+1,?_⟩;cases op<;>first|exact absurd rfl (g _ _)|exact absurd rfl (e _)|(simp only[Xo,Go.am.aC,fF,bq,h1,h2,h3];exact j)
theorem RO.HT{d:Option ab}{f:aJ}{args:List aJ}{l:List be}{re:List jo}{fv:AV}{b:List AV}(h:YF ac fv b H λv H'=>(∀aa,Le (bC L d v) aa->fG aa H' re=true)/\RO ac c l s (bC L d v) H')(o:bf L f=fv:=by exact cw)(g:fv.bB=true:=by first|rfl|assumption)(p:args.map (bf L)=b:=by rfl)(i:b.all AV.bB=true:=by first|rfl|assumption):RO ac c (⟨d,.call f args,none,[],re⟩::l) s L H:=λaa a=>by
 obtain⟨n,q⟩:=h;have j:args.map (gv aa)=b:=by subst p;refine alk λx r=>?_;exact a.gv rfl (aln.1 i _ (akp r))
 obtain⟨m,e⟩:=(Ad ac n).call (K:=λm v H'=>fG (aQ aa d v) H' re=true/\Xo ac m l ⟨aQ aa d v,c.M,c.R⟩ H' (kh ac c.K s .none)) (λm t v H e h=>⟨h.1,h.2.mono e λ_ _ h=>h⟩) ((mono ac n).call (afb _) (λv H' k=>by obtain⟨m,e⟩:=k.2 _ (a.set d v);exact⟨m,k.1 _ (a.set d v),e⟩) q);refine⟨max n m+1,?_⟩;simp only[Xo,Go.am.aC,fF,eV,eB,bq];rw[a.gv o g,j];refine(show Xf ac n fv b H _ from e).mono (Nat.le_max_left ..) λv H' h=>?_;rw[aK h.1];exact(show Xo ac m l _ H' _ from h.2).mono (Nat.le_max_right ..) λ_ _ h=>h
end
section
variable{A B C H H':ai}{size n e bytes cap:Nat}{vs ws:List AV}{sv:AV}{fp fp' f a b c:List ab}{full ex:Bool}{i:ab}
structure oS(fp fp':List ab)(H H':ai):Prop where
 nx:H.next.an<=H'.next.an
 hd:∀j∈fp',j∈fp\/H.next.an<=j.an
 dT:∀j:ab,j∉fp->j.an<H.next.an->H'.get j=H.get j
def tp(A:ai)(fp:List ab):Prop:=∀j∈fp,A.next.an<=j.an
theorem oS.cI(h:oS fp fp' H H')(hg:bm A H)(a:tp A fp):bm A H':=⟨alj hg.nx h.nx,λj hj=>by rw[h.dT j (λe=>by have:=a j e;omega) (ako hj hg.nx)];exact hg.dT j hj⟩
theorem oS.HV(h:oS fp fp' H H')(hg:bm A H)(a:tp A fp):tp A fp':=λj hj=>by
 rcases h.hd j hj with e|e;·exact a j e
 have:=hg.nx;omega
theorem oS.refl(fp:List ab)(H:ai):oS fp fp H H:=⟨afb _,λ_ hj=>.inl hj,λ_ _ _=>rfl⟩
theorem dU.wx(h:dU H fp e size vs n full (.slice i 0 n cap ex)){o:Nat}{us:List AV}(v:o+ws.length<=cap*size)(h1:dS ws=true)(hl:us.length=vs.length)(hu:∀j,j<vs.length->us[j]?=if o<=j/\j<o+ws.length then ws[j - o]? else vs[j]?):∃H',iX H i o ws=some H'/\oS fp [i] H H'/\dU H' [i] e size us n full (.slice i 0 n cap ex):=by
 rcases h with⟨_,_,_,h⟩|⟨w,c,aM,q,u,rfl,h2,hg,l,m,r,s,d⟩;·cases h
 injection h2 with h2 _ _ h3 t;subst h2;subst h3;subst t;have hd:(decide (0<=o)&&decide (o+ws.length<=cap*size)&&dS ws)=true:=by simp only[aj6,decide_eq_true_eq,h1,and_true];omega
 refine⟨(H.gh aM).set i (.cells (fX c o ws) (cap*size) e true [] 0),by simp only[iX,hg,hd,bq],⟨Nat.le_of_eq (by rw[ai.gD,ai.kf]),λj hj=>?_,λj hj x=>?_⟩,?_⟩;·rw[aep]at hj;subst hj;exact .inl (aeU ..)
 .rw[ai.aF,aq λe:j=i=>hj (by rw[e];exact aeU ..),ai.xy,aq λe=>hj (aey _ e)]
 refine .inr ⟨i,fX c o ws,[],cap,ex,rfl,rfl,by rw[ai.aF,aK rfl],l,hl.trans m,λj hj=>?_,λp k=>?_,d⟩
 .have a:j<vs.length:=af;have:=hu j a;rw[getElem?_pos us j hj]at this;rw[nD];split;·rename_i b;rw[aK b,getElem?_pos ws _ af]at this;injection this with this;simp only[akm];rw[getElem?_pos ws _ af];simp[this]
  rename_i b;rw[aq b,getElem?_pos vs _ a]at this;injection this with this;rw[r j a,this]
 rw[aep]at k;subst k;rw[ai.gD,ai.kf];exact s _ (aeU ..)
theorem dU.mem(h:dU H fp e size vs n full (.slice i 0 n cap ex)):i∈fp/\n<=cap/\i.an<H.next.an:=by rcases h with⟨_,_,_,h⟩|⟨l,c,aM,b,j,rfl,h2,hg,d,k,m,o,a⟩;all_goals grind
theorem dU.uT(h:dU H fp e size vs n full sv)(l:n≠0):∃i cap ex,sv=.slice i 0 n cap ex:=by rcases h with⟨_,_,h,_⟩|⟨m,c,aM,b,j,rfl,h2,hg,d,k,o,p,a⟩;all_goals grind
variable{l:List (Int×Int)}
variable{ac:Nat->aG}{g:Cx}{s:List SI}{L:Kn}{d:Option ab}{aC:List be}
end
section
variable{ac:Nat->aG}{c:Cx}{s:List SI}{L:Kn}{H H' A:ai}{d:Option ab}{l:List be}{size n e:Nat}{vs ws:List AV}{sv:AV}{fp fp':List ab}
theorem RO.de{q:ab}{p:Prop} [Decidable p](h1:p->RO ac c l s ((q,.bool true)::L) H)(h2:¬p->RO ac c l s ((q,.bool false)::L) H):RO ac c l s ((q,.bool (decide p))::L) H:=by by_cases a:p;all_goals grind
theorem RO.tq{q:ab}{t:Bool}(h1:t=true->RO ac c l s ((q,.bool true)::L) H)(h2:t=false->RO ac c l s ((q,.bool false)::L) H):RO ac c l s ((q,.bool t)::L) H:=by cases t with|true=>grind|false=>grind
theorem tu{k b y:Nat}(h:b<=y):oJ (.int k (.ofNat b)) y=some b:=by simp[h,oJ,akB,bq]
theorem RO.V2{x y:aJ}{b k:Nat}(hs:Sl H size vs n sv)(h:∀a,Sl H size (vs.take (b*size)) b a->RO ac c l s (bC L d a) H)(g:bf L x=sv:=by exact cw)(p:bf L y=.int k (.ofNat b):=by exact cw)(hb:b<=n:=by omega):RO ac c (⟨d,.im e size x none (some y) none,none,[],[]⟩::l) s L H:=by
 rcases hs with⟨rfl,rfl,rfl⟩|⟨i,o,cap,ex,r,m,t,f,aM,fz,rfl,hg,v,hl,u,hi,q⟩;·have:b=0:=af;subst this;refine RO.Cb (m:=0) (b:=0) (a:=0) g rfl ?_ rfl (h _ (.inl ⟨rfl,rfl,aB⟩));simp only[l7,p];rfl
 refine RO.im (m:=cap) (b:=b) (a:=0) g rfl ?_ rfl aB ?_;·simp only[l7,p];exact tu af
 have e1:(if ex&&decide (cap=0)then o else o+0*size)=o:=by split<;>omega
 rw[e1,alJ,alJ];have cA:b*size<=n*size:=aky _ hb;refine h _ (.inr ⟨i,o,cap,_,r,m,t,f,aM,fz,rfl,hg,af,?_,λj hj=>?_,hi,af⟩);·rw[akF];omega
 rw[akF]at hj;rw[u j af];simp
variable{q:ab}{v w:AV}
theorem RO.V3{f:List AV}(h:∀H' a fp',dU H' fp' e size [] 0 true a->bm H H'->tp H fp'->RO ac c l s (bC L d a) H'):RO ac c (⟨d,.buildSlice e 0 f [],none,[],[]⟩::l) s L H:=by refine RO.buildSlice (vs:=[]) ?_ rfl rfl;have b:dU (H.new (.cells (db []) (0*size) e true [] 0)) [H.next] e size [] 0 true (.slice H.next 0 0 0 true):=dU.new (vs:=[]) aB true true;rw[Nat.zero_mul]at b;exact h _ _ _ b (bm.new H _) (λj hj=>by grind)
theorem RO.V4{x y:aJ}{b:AV}{k bytes:Nat}{f:List AV}(g:dU H fp e size vs n true sv)(hs:Sl H size ws k b)(h1:dS ws=true)(h:∀a H' fp',dU H' fp' e size (vs++ws) (n+k) true a->oS fp fp' H H'->RO ac c l s (bC L d a) H')(i:bf L x=sv:=by exact cw)(m:bf L y=b:=by exact cw)(hb:(n+k)*bytes<=70368744177664:=by omega)(o:n+k<=70368744177664:=by omega):RO ac c (⟨d,.append e bytes size f false x y,none,[],[]⟩::l) s L H:=RO.V0 g hs h1 (λa H' fp' h2 h3 p q=>h a H' fp' h2 ⟨h3,λj hj=>(p j hj).imp id λh=>h.1,q⟩) i m hb o
theorem RO.HW{e size:Nat}{x:aJ}{lo hi f:Option aJ}{i:ab}{o n g:Nat}{ex:Bool}{a b m:Nat}{v:AV}(j:bf L x=.slice i o n g ex)(k:l7 L f g g=some m)(hb:l7 L hi n m=some b)(p:l7 L lo 0 b=some a)(he:(ex||f.isSome||lo.isNone||sM H i e)=true)(q:AV.slice i (if ex&&decide (m=a)then o else o+a*size) (b - a) (m - a) (ex||f.isSome)=v)(h:RO ac c l s (bC L d v) H):RO ac c (⟨d,.im e size x lo hi f,none,[],[]⟩::l) s L H:=by grind[RO.im]
end
section
variable{ac:Nat->aG}{c:Cx}{s:List SI}{L:Kn}{H H' A:ai}{d:Option ab}{l:List be}{size n e k cap bytes:Nat}{vs ws:List AV}{sv:AV}{fp fp':List ab}{full ex:Bool}{i:ab}
end
section
variable{ac:Nat->aG}{c:Cx}{s:List SI}{L:Kn}{H:ai}{d:Option ab}{l:List be}
theorem RO.Al{x a b:aJ}{v:AV}(h:RO ac c l s (bC L d v) H)(f:bf L x=.bool true:=by exact cw)(g:bf L a=v:=by exact cw)(i:v.bB=true:=by first|rfl|assumption):RO ac c (⟨d,.pick x a b,none,[],[]⟩::l) s L H:=RO.op (λaa e=>by simp only[aE,e.gv f rfl,e.gv g i,bq]) h
theorem RO.Am{x a b:aJ}{v:AV}(h:RO ac c l s (bC L d v) H)(f:bf L x=.bool false:=by exact cw)(hb:bf L b=v:=by exact cw)(g:v.bB=true:=by first|rfl|assumption):RO ac c (⟨d,.pick x a b,none,[],[]⟩::l) s L H:=RO.op (λaa e=>by simp only[aE,e.gv f rfl,e.gv hb g,aes,bP]) h
theorem RO.B'{op:bW}{g:ab}{w:Bool}{hd:List ab}{re:List jo}(h:RO ac c l s (bC L d .alR) H)(hg:bf L (.t g)=.tuple []:=by exact cw):RO ac c (⟨d,op,some (g,w),hd,re⟩::l) s L H:=λaa a=>by obtain⟨n,b⟩:=h _ (a.set d .alR);refine⟨n+1,?_⟩;have e:aa.get .alR g=.tuple []:=a.get hg rfl;simp[e,b,Xo,Go.am.aC,fF,lX,aes,bP,AV.bB,bq]
theorem ad{v:AV}{l:List AV}(h:v.bB=true)(h2:l.all AV.bB=true):(v::l).all AV.bB=true:=by grind
theorem RO.cl{f:aJ}{args:List aJ}{fv:AV}{av:List AV}(h:YF ac fv av H λv H'=>RO ac c l s (bC L d v) H')(e:bf L f=fv:=by exact cw)(a:fv.bB=true:=by first|rfl|assumption)(ha:args.map (bf L)=av:=by rfl)(b:av.all AV.bB=true:=by repeat first|rfl|assumption|(refine ad ?_ ?_)):RO ac c (⟨d,.call f args,none,[],[]⟩::l) s L H:=RO.call h e a ha b
theorem px{k:Nat}(h:1<=k)(a:k<1000000):iK .sub 3 (.ofNat k) (.ofNat 1)=some (.int 3 (.ofNat (k - 1))):=by grind[iK,pY]
theorem bF{a:Type}{l:List a}{k:Nat}(h:k<l.length)(d:a):l.getD k d=l[k]:=by grind
theorem YF.oJ{f:Nat}{fs as cs:List AV}{K:KT}(h:YF ac (.func f fs cs) as H K):YF ac (.func f [] cs) (fs++as) H K:=by obtain⟨n,h⟩:=h;refine⟨n,?_⟩;cases n with|zero=>trivial|succ n=>trivial
end
section
structure Th where
 P:ai->List ab->Prop
 fr:∀{H H':ai}{fp:List ab},P H fp->H.next.an<=H'.next.an->(∀j∈fp,H'.get j=H.get j)->P H' fp
 lt:∀{H:ai}{fp:List ab},P H fp->∀j∈fp,j.an<H.next.an
def Fs(A H:ai):List (List ab)->List Th->Prop
 |[],[]=>True
 |fp::fs,t::ts=>t.P H fp/\tp A fp/\(∀j∈fp,∀f∈fs,j∉f)/\Fs A H fs ts
 |_,_=>False
def aj(A H:ai)(ts:List Th):Prop:=bm A H/\∃fs,Fs A H fs ts
variable{A B H H' c:ai}{fs:List (List ab)}{ts us:List Th}{t t':Th}{fp fp':List ab}
theorem Fs.lt:∀{fs:List (List ab)}{ts:List Th},Fs A H fs ts->∀f∈fs,∀j∈f,j.an<H.next.an
 |[],[],_,f,a=>by grind
 |fp::fs,t::ts,⟨h1,_,_,b⟩,f,a=>by
  rcases aeV.1 a with rfl|a;·exact t.lt h1
  exact Fs.lt b f a
 |[],_::_,h,_,_=>h.elim
 |_::_,[],h,_,_=>h.elim
theorem Fs.ge:∀{fs:List (List ab)}{ts:List Th},Fs A H fs ts->∀f∈fs,tp A f
 |[],[],_,f,a=>by grind
 |fp::fs,t::ts,⟨_,h2,_,b⟩,f,a=>by
  rcases aeV.1 a with rfl|a;·omega
  exact Fs.ge b f a
 |[],_::_,h,_,_=>h.elim
 |_::_,[],h,_,_=>h.elim
theorem Fs.tg(a:H.next.an<=H'.next.an):∀{fs:List (List ab)}{ts:List Th},Fs A H fs ts->(∀f∈fs,∀j∈f,H'.get j=H.get j)->Fs A H' fs ts|[],[],_,_=>trivial|_::_,t::_,⟨h1,h2,h3,b⟩,hg=>⟨t.fr h1 a (hg _ (aeU ..)),h2,h3,Fs.tg a b λf d=>hg f (aey _ d)⟩|[],_::_,h,_=>h.elim|_::_,[],h,_=>h.elim
theorem Fs.ki(hg:bm A H)(hu:oS fp fp' H H'):∀{fs:List (List ab)}{ts:List Th}{i:Nat},Fs A H fs ts->ts[i]?=some t->fs[i]?=some fp->t'.P H' fp'->∃b,Fs A H' b (ts.set i t')/\∀f∈b,f=fp'\/f∈fs
 |[],[],i,_,h,_,_=>by grind
 |[],_::_,_,h,_,_,_=>h.elim
 |_::_,[],_,h,_,_,_=>h.elim
 |l::fs,t0::ts,0,⟨h1,h2,h3,d⟩,k,a,m=>by
  simp only[List.getElem?_cons_zero,adG]at k a;subst a;refine⟨fp'::fs,⟨m,hu.HV hg h2,λj hj f a e=>?_,Fs.tg hu.nx d λf a j hj=>hu.dT j (λe=>h3 j e f a hj) (Fs.lt d f a j hj)⟩,λf a=>(aeV.1 a).imp id λh=>aey _ h⟩;rcases hu.hd j hj with h|h;·grind
  have:=Fs.lt d f a j e;omega
 |l::fs,t0::ts,i+1,⟨h1,h2,h3,d⟩,k,a,m=>by
  simp only[ak6]at k a;have o:=List.mem_of_getElem? a;have n:=t0.lt h1;have g:∀j∈l,j∉fp:=λj hj=>h3 j hj fp o;obtain⟨b,p,q⟩:=Fs.ki hg hu d k a m;refine⟨l::b,⟨t0.fr h1 hu.nx λj hj=>hu.dT j (g j hj) (n j hj),h2,λj hj f a e=>?_,p⟩,λf a=>?_⟩
  .rcases q f a with rfl|h;·rcases hu.hd j e with h|h;all_goals grind
   grind
  grind
theorem Fs.at:∀{fs:List (List ab)}{ts:List Th}{i:Nat},Fs A H fs ts->ts[i]?=some t->∃fp,fs[i]?=some fp/\t.P H fp|[],[],i,_,h=>by grind|[],_::_,_,h,_=>h.elim|_::_,[],_,h,_=>h.elim|b::fs,t0::ts,0,⟨h1,_,_,_⟩,a=>by grind|b::fs,t0::ts,i+1,⟨_,_,_,d⟩,a=>by obtain⟨fp,e,h⟩:=Fs.at d a;grind
theorem aj.ki(U:aj A H ts)(i:Nat)(hi:ts[i]?=some t):∃fp,t.P H fp/\tp A fp/\∀{H':ai}{fp':List ab}{t':Th},oS fp fp' H H'->t'.P H' fp'->aj A H' (ts.set i t'):=by obtain⟨hg,fs,a⟩:=U;obtain⟨fp,e,h⟩:=a.at hi;refine⟨fp,h,a.ge fp (List.mem_of_getElem? e),λhu b=>⟨hu.cI hg (a.ge fp (List.mem_of_getElem? e)),?_⟩⟩;obtain⟨d,h1,_⟩:=a.ki hg hu hi e b;grind
theorem aj.gr(U:aj A H ts):bm A H:=U.1
theorem aj.nil(hg:bm A H):aj A H []:=⟨hg,[],trivial⟩
theorem aj.push(U:aj A H ts)(hg:bm H H')(h:t.P H' fp)(d:tp H fp):aj A H' (t::ts):=by obtain⟨g,fs,a⟩:=U;refine⟨g.trans hg,fp::fs,h,λj hj=>alj g.nx (d j hj),λj hj f b e=>?_,Fs.tg hg.nx a λf b j hj=>hg.dT j (a.lt f b j hj)⟩;have:=a.lt f b j e;have:=d j hj;omega
theorem aj.cI(U:aj A H ts)(hg:bm H H'):aj A H' ts:=by obtain⟨b,fs,a⟩:=U;exact⟨b.trans hg,fs,Fs.tg hg.nx a λf d j hj=>hg.dT j (a.lt f d j hj)⟩
theorem aj.tail(U:aj A H (t::ts)):aj A H ts:=by obtain⟨a,fs,b⟩:=U;cases fs with|nil=>trivial|cons f fs=>exact⟨a,fs,b.2.2.2⟩
theorem aj.fC(U:aj A H ts):∀{us:List Th},aj H H' us->aj A H' (us++ts)
 |us,o=>by
  obtain⟨hg,fs,p⟩:=o;have h0:=U.cI hg;induction us generalizing fs with
  |nil=>grind
  |cons t us i=>
   cases fs with
   |nil=>trivial
   |cons f fs=>
    obtain⟨h1,h2,h3,d⟩:=p;obtain⟨l,m,a⟩:=U;have key:∀{us:List Th}{fs:List (List ab)},Fs H H' fs us->∃ks,Fs A H' ks (us++ts)/\∀k∈ks,k∈fs\/k∈m:=by
     intro us;induction us with
     |nil=>intro fs _;exact⟨m,Fs.tg hg.nx a λf q j hj=>hg.dT j (a.lt f q j hj),λk b=>.inr b⟩
     |cons t us i=>
      intro fs h;cases fs with
      |nil=>exact h.elim
      |cons f fs=>
       obtain⟨h1,h2,h3,d⟩:=h;obtain⟨ks,g,n⟩:=i d;refine⟨f::ks,⟨h1,λj hj=>alj l.nx (h2 j hj),λj hj k b e=>?_,g⟩,λk b=>?_⟩
       .rcases n k b with h|h;·exact h3 j hj k h e
        have:=a.lt k h j e;have:=h2 j hj;omega
       rcases aeV.1 b with rfl|h;·exact .inl (aeU ..)
       exact(n k h).imp (aey _) id
    obtain⟨ks,g,_⟩:=key (us:=t::us) (fs:=f::fs) ⟨h1,h2,h3,d⟩;exact⟨l.trans hg,ks,g⟩
theorem aj.bX(U:aj A H ts)(a:H'.next=H.next)(hg:∀j,H'.get j=H.get j):aj A H' ts:=U.cI ⟨by grind,λj _=>hg j⟩
theorem aj.dc(H:ai):aj H H []:=aj.nil (bm.refl H)
theorem aj.drop(n:Nat)(U:aj A H ts):aj A H (ts.drop n):=by induction n generalizing ts with|zero=>grind|succ n a=>cases ts with|nil=>grind|cons t ts=>simpa using a U.tail
theorem Fs.Ny:∀{fs:List (List ab)}{ts:List Th}{i:Nat},Fs A H fs ts->ts[i]?=some t->∃fp a,t.P H fp/\tp A fp/\Fs A H a (ts.eraseIdx i)/\(∀g∈a,g∈fs)/\fp∈fs/\∀j∈fp,∀g∈a,j∉g|[],[],i,_,h=>by grind|[],_::_,_,h,_=>h.elim|_::_,[],_,h,_=>h.elim|b::fs,t0::ts,0,⟨h1,h2,h3,d⟩,f=>by grind[List.getElem?_cons_zero,adG,aey,aeU]|b::fs,t0::ts,i+1,⟨h1,h2,h3,d⟩,f=>by obtain⟨fp,a,k,l,m,n,o,p⟩:=Fs.Ny d f;refine⟨fp,b::a,k,l,⟨h1,h2,λj hj g hg=>h3 j hj g (n g hg),m⟩,λg hg=>?_,aey _ o,λj hj g hg e=>?_⟩;all_goals grind
theorem aj.gk(U:aj A H ts)(i:Nat)(hi:ts[i]?=some t):aj A H (t::ts.eraseIdx i):=by obtain⟨a,fs,b⟩:=U;obtain⟨fp,d,e,f,g,_,_,h⟩:=b.Ny hi;exact⟨a,fp::d,e,f,h,g⟩
theorem aj.get(U:aj A H ts)(i:Nat)(hi:ts[i]?=some t):∃fp,t.P H fp:=by obtain⟨fp,h,_⟩:=U.ki i hi;grind
theorem aj.as(U:aj A H ts)(i:Nat)(hi:ts[i]?=some t)(h:∀fp,t.P H fp->t'.P H fp):aj A H (ts.set i t'):=by obtain⟨fp,h1,_,h2⟩:=U.ki i hi;grind[oS.refl]
theorem aj.Nz(U:aj A H ts)(hg:bm B A):aj B H ts:=by
 obtain⟨b,fs,a⟩:=U;refine⟨hg.trans b,fs,?_⟩;induction fs generalizing ts with
 |nil=>cases ts with|nil=>trivial|cons _ _=>trivial
 |cons f fs d=>cases ts with|nil=>trivial|cons t ts=>exact⟨a.1,λj hj=>alj hg.nx (a.2.1 j hj),a.2.2.1,d a.2.2.2⟩
theorem Fs.cM(h:ts.Perm us):∀{fs:List (List ab)},Fs A H fs ts->∃d,Fs A H d us/\∀g,g∈d↔g∈fs:=by
 induction h with
 |nil=>grind
 |cons t _ m=>intro fs h;cases fs with|nil=>trivial|cons f fs=>obtain⟨h1,h2,h3,e⟩:=h;obtain⟨d,n,o⟩:=m e;exact⟨f::d,⟨h1,h2,λj hj g hg=>h3 j hj g ((o g).1 hg),n⟩,λg=>by grind⟩
 |swap a b l=>intro fs h;cases fs with|nil=>trivial|cons f fs=>cases fs with|nil=>exact h.2.2.2.elim|cons g fs=>obtain⟨h1,h2,h3,e,p,u,q⟩:=h;refine⟨g::f::fs,⟨e,p,λj hj k i=>?_,h1,h2,λj hj k i=>h3 j hj k (aey _ i),q⟩,λk=>by grind⟩;grind
 |trans _ _ r s=>grind
theorem aj.cM(U:aj A H ts)(h:ts.Perm us):aj A H us:=by obtain⟨a,fs,b⟩:=U;obtain⟨d,e,_⟩:=b.cM h;exact⟨a,d,e⟩
theorem aj.gF{xs:List Th}(U:aj A H (xs++ts++us)):aj A H (ts++(xs++us)):=by have:=U.cM (akH.append_right us);grind
theorem aj.kO{xs:List Th}(U:aj A H (ts++(xs++us))):aj A H (xs++ts++us):=by rw[<-aj2]at U;exact U.cM (akH.append_right us)
theorem aj.Ej(U:aj A H (t::ts++us)):aj A H (ts++t::us):=U.cM akj.symm
theorem aj.wy(U:aj A H (ts++t::us)):aj A H (t::ts++us):=U.cM akj
theorem Fs.sub(h:us.Sublist ts):∀{fs:List (List ab)},Fs A H fs ts->∃b,Fs A H b us/\∀g∈b,g∈fs:=by
 induction h with
 |slnil=>grind
 |cons a _ d=>intro fs h;cases fs with|nil=>trivial|cons f fs=>obtain⟨b,k,i⟩:=d h.2.2.2;grind
 |cons_cons a _ d=>intro fs h;cases fs with|nil=>trivial|cons f fs=>obtain⟨h1,h2,h3,l⟩:=h;obtain⟨b,k,i⟩:=d l;exact⟨f::b,⟨h1,h2,λj hj g hg=>h3 j hj g (i g hg),k⟩,λg hg=>(aeV.1 hg).elim (λe=>e▸aeU ..) λh=>aey _ (i g h)⟩
theorem aj.sub(U:aj A H ts)(h:us.Sublist ts):aj A H us:=by obtain⟨a,fs,b⟩:=U;obtain⟨d,e,_⟩:=b.sub h;exact⟨a,d,e⟩
theorem aj.skip{a:List Th}(U:aj A H (ts++a++us)):aj A H (ts++us):=by rw[aj2]at U;exact U.sub ((List.sublist_append_right a us).append_left ts)
end
section
def tS(e size:Nat)(vs:List AV)(n:Nat)(full:Bool)(sv:AV):Th where
 P H fp:=dU H fp e size vs n full sv
 fr h a hg:=h.frame a hg
 lt h:=h.below
def tB(e:Nat)(q:ab)(vs:List AV):Th where
 P H fp:=q∈fp/\(∀j∈fp,j=q)/\∃c,H.get q=.cells c vs.length e true [] 0/\(∀j(h:j<vs.length),c.bw .alR j=vs[j])/\q.an<H.next.an
 fr h b hg:=by
  obtain⟨h1,h2,c,h3,d,a⟩:=h
  exact⟨h1,h2,c,by rw[hg _ h1];exact h3,d,ako a b⟩
 lt h:=by
  obtain⟨_,h2,c,_,_,a⟩:=h
  intro j hj;rw[h2 j hj];exact a
variable{A H H':ai}{ts us:List Th}{e size n o m i k bytes:Nat}{vs ws:List AV}{sv v w:AV}{full ex:Bool}{q:ab}{cap:Nat}{fp:List ab}
variable{ac:Nat->aG}{c:Cx}{s:List SI}{L:Kn}{d:Option ab}{l:List be}
theorem ao{v:AV}{l:List AV}(h:v.ee=true)(h2:dS l=true):dS (v::l)=true:=by simp[h,h2,dS,alK]
theorem dU.NA(h:dU H fp e size vs n full (.slice q 0 n cap ex))(b:vs[o]?=some v):bh H q o=some v:=by
 obtain⟨a,e1⟩:=akR.1 b;have c:0<n:=by
  have:=h.sl.length;rcases Nat.eq_zero_or_pos n with e|e;·subst e;simp at this;rw[this]at a;simp at a
  exact e
 obtain⟨i,f,g,j,d,_,_,hat,_⟩:=h.sl.at c;grind
theorem tB.cell{fp:List ab}(h:(tB e q vs).P H fp)(b:vs[o]?=some v):bh H q o=some v:=by obtain⟨_,_,c,h3,d,_⟩:=h;obtain⟨a,e1⟩:=akR.1 b;simp only[bh,h3,show akv o vs.length=true from alN akY a,bq,d o a,e1]
theorem tB.qQ{fp:List ab}(h:(tB e q vs).P H fp)(a:o+m<=vs.length):fE H q o m=some ((vs.drop o).take m):=by obtain⟨_,_,c,h3,b,_⟩:=h;grind[yh,akF,alC,aly,fE]
def sp(vs:List AV)(o:Nat)(ws:List AV):List AV:=vs.take o++(ws++vs.drop (o+ws.length))
theorem HZ(h:o+ws.length<=vs.length):(sp vs o ws).length=vs.length:=by simp[sp];omega
theorem NB(h:o+ws.length<=vs.length)(j:Nat):(sp vs o ws)[j]?=if o<=j/\j<o+ws.length then ws[j - o]? else vs[j]?:=by unfold sp;grind
theorem V5(h:o<vs.length):sp vs o [w]=vs.set o w:=by
 apply List.ext_getElem?;intro j;rw[NB (by simp;omega),List.getElem?_set];simp only[akC];by_cases hj:o=j;·subst hj;rw[aK af,aK rfl,aK h];simp
 rw[aq af,aq hj]
theorem tB.wx{fp:List ab}(h:(tB e q vs).P H fp)(a:o+ws.length<=vs.length)(h1:dS ws=true):∃H' fp',iX H q o ws=some H'/\oS fp fp' H H'/\(tB e q (sp vs o ws)).P H' fp':=by
 obtain⟨d,h2,c,h3,f,g⟩:=h;have hd:(decide (0<=o)&&decide (o+ws.length<=vs.length)&&dS ws)=true:=by simp only[aj6,decide_eq_true_eq,h1,and_true];omega
 refine⟨(H.gh []).set q (.cells (fX c o ws) vs.length e true [] 0),[q],by simp only[iX,h3,hd,bq],⟨Nat.le_of_eq (by rw[ai.gD];rfl),λj hj=>?_,λj hj i=>?_⟩,aep.2 rfl,λj hj=>aep.1 hj,fX c o ws,?_,λj hj=>?_,by rw[ai.gD];exact g⟩;·rw[aep]at hj;subst hj;exact .inl d
 .rw[ai.aF,aq λe:j=q=>hj (by rw[e];exact d)];rfl
 .rw[ai.aF,aK rfl,HZ a]
 rw[HZ a]at hj;rw[nD];have:=NB a j;rw[getElem?_pos (sp vs o ws) j (by rw[HZ a];exact hj)]at this;split;·rename_i b;rw[aK b,getElem?_pos ws _ af]at this;injection this with this;simp only[akm];rw[getElem?_pos ws _ af];simp[this]
 rename_i b;rw[aq b,getElem?_pos vs _ hj]at this;injection this with this;rw[f j hj,this]
theorem RO.gU(U:aj A H ts)(i:Nat){x:aJ}(h:RO ac c l s (bC L d v) H)(a:bf L x=.az q o:=by exact cw)(hi:ts[i]?=some (tB e q vs):=by rfl)(hv:vs[o]?=some v:=by rfl):RO ac c (⟨d,.aW x,none,[],[]⟩::l) s L H:=by obtain⟨fp,b⟩:=U.get i hi;grind[RO.aW,tB.cell]
theorem RO.eQ(U:aj A H ts)(i:Nat){x:aJ}(h:RO ac c l s (bC L d (.agg ((vs.drop o).take m))) H)(a:bf L x=.az q o:=by exact cw)(hi:ts[i]?=some (tB e q vs):=by rfl)(hm:o+m<=vs.length:=by first|decide|exact akc rfl|simp|omega):RO ac c (⟨d,.gw m x,none,[],[]⟩::l) s L H:=by obtain⟨fp,b⟩:=U.get i hi;grind[RO.gw,tB.qQ]
theorem RO.fD(U:aj A H ts)(i:Nat){x:aJ}(h:RO ac c l s (bC L d v) H)(a:bf L x=.az q o:=by exact cw)(hi:ts[i]?=some (tS e size vs n full (.slice q 0 n cap ex)):=by rfl)(hv:vs[o]?=some v:=by rfl):RO ac c (⟨d,.aW x,none,[],[]⟩::l) s L H:=by obtain⟨fp,b⟩:=U.get i hi;exact RO.aW h a (dU.NA b hv)
theorem RO.gG(U:aj A H ts)(i:Nat){a x:aJ}(h:∀H',aj A H' (ts.set i (tB e q (vs.set o w)))->RO ac c l s (bC L d .alR) H')(b:bf L a=.az q o:=by exact cw)(f:bf L x=w:=by exact cw)(hi:ts[i]?=some (tB e q vs):=by rfl)(g:o<vs.length:=by first|decide|exact akc rfl|simp|omega)(j:w.ee=true:=by first|rfl|assumption)(k:w.cells=[w]:=by first|rfl|assumption)(hd:w.bB=true:=by first|rfl|assumption):RO ac c (⟨d,.store 1 a x,none,[],[]⟩::l) s L H:=by obtain⟨fp,m,_,hu⟩:=U.ki i hi;grind[tB.wx,akC,dS,V5,RO.store]
theorem RO.iT(U:aj A H ts)(i:Nat){a x:aJ}(h:∀H',aj A H' (ts.set i (tB e q (sp vs o ws)))->RO ac c l s (bC L d .alR) H')(b:bf L a=.az q o:=by exact cw)(f:bf L x=.agg ws:=by exact cw)(hi:ts[i]?=some (tB e q vs):=by rfl)(g:o+ws.length<=vs.length:=by first|decide|exact akc rfl|simp|omega)(j:ws.length=n:=by first|rfl|simp)(k:dS ws=true:=by repeat first|rfl|assumption|(refine ao ?_ ?_)):RO ac c (⟨d,.store n a x,none,[],[]⟩::l) s L H:=by obtain⟨fp,m,_,hu⟩:=U.ki i hi;obtain⟨H',fp',h1,h2,h3⟩:=tB.wx (ws:=ws) m g k;exact RO.store (v:=.agg ws) h1 (h H' (hu h2 h3)) b f rfl j
theorem NC.set{b:Type}{f:b->AV}{a:List b}(h:dU H fp e 1 (a.map f) a.length full (.slice q 0 a.length cap ex))(c:k<a.length)(z:b)(h1:(f z).ee=true):∃H',iX H q (0+k*1) [f z]=some H'/\oS fp [q] H H'/\dU H' [q] e 1 ((a.set k z).map f) (a.set k z).length full (.slice q 0 (a.set k z).length cap ex):=by
 have d:=(dU.mem h).2.1;have:=dU.wx h (o:=0+k*1) (ws:=[f z]) (us:=(a.set k z).map f) (by simp;omega) (by simp[dS,h1]) aB λj hj=>by
  simp only[akg]at hj;simp only[aks,List.getElem?_set,akC];by_cases e:k=j;·subst e;rw[aK rfl,aK af];simp[c]
  rw[aq e,aq af]
 grind
theorem RO.lC{b:Type}{f:b->AV}{zs:List b}(U:aj A H ts)(i:Nat)(z:b)(g:zs.length=n){a x:aJ}(h:∀H',aj A H' (ts.set i (tS e 1 ((zs.set k z).map f) n full (.slice q 0 n cap ex)))->RO ac c l s (bC L d .alR) H')(j:bf L a=.az q (0+k*1):=by exact cw)(m:bf L x=f z:=by exact cw)(hi:ts[i]?=some (tS e 1 (zs.map f) n full (.slice q 0 n cap ex)):=by rfl)(ho:k<zs.length:=by first|omega|assumption)(o:(f z).ee=true:=by first|rfl|assumption)(r:(f z).cells=[f z]:=by first|rfl|assumption)(hd:(f z).bB=true:=by first|rfl|assumption):RO ac c (⟨d,.store 1 a x,none,[],[]⟩::l) s L H:=by subst g;obtain⟨fp,p,_,hu⟩:=U.ki i hi;obtain⟨H',h1,h2,h3⟩:=NC.set (k:=k) p ho z o;refine RO.store (by grind) (h H' ?_) j m hd (by grind);have:=hu (t':=tS e 1 ((zs.set k z).map f) (zs.set k z).length full (.slice q 0 (zs.set k z).length cap ex)) h2 h3;grind
theorem qR{a:Type}{f:a->AV}{b:List a}(z:a)(c:k<b.length):(b.map f)[0+k*1]?=some (f (b.getD k z)):=by grind
theorem tB.new(e:Nat)(vs:List AV)(H:ai):(tB e H.next vs).P (H.new (.cells (db vs) vs.length e true [] 0)) [H.next]:=⟨aep.2 rfl,λj hj=>aep.1 hj,db vs,by rw[ai.dJ,aK rfl],λj hj=>Ao hj,by rw[ai.nK];omega⟩
theorem uU(H:ai):tp H [H.next]:=λj hj=>by grind
theorem aj.Ic(U:aj A H ts)(e:Nat)(vs:List AV):aj A (H.new (.cells (db vs) vs.length e true [] 0)) (tB e H.next vs::ts):=U.push (bm.new H _) (tB.new e vs H) (uU H)
theorem RO.dL(U:aj A H ts){x:aJ}(h:∀H' q,aj A H' (tB e q v.cells::ts)->RO ac c l s (bC L d (.az q 0)) H')(a:bf L x=v:=by exact cw)(b:v.bB=true:=by first|rfl|assumption)(ho:dS v.cells=true:=by repeat first|rfl|assumption|(refine ao ?_ ?_)):RO ac c (⟨d,.box e x,none,[],[]⟩::l) s L H:=RO.box (h _ _ (U.Ic e v.cells)) a b ho
theorem RO.gI(U:aj A H ts){a:List AV}(h:∀H' q,aj A H' (tB e q a::ts)->RO ac c l s (bC L d (.az q 0)) H'):RO ac c (⟨d,.alloc e a,none,[],[]⟩::l) s L H:=RO.alloc (h _ _ (U.Ic e a))
theorem RO.fx(U:aj A H ts){p:ab}{a us:List AV}{x:aJ}{xv:AV}(h:∀H' q,aj A H' (tB e q us::ts)->RO ac c l s ((p,.az q 0)::L) H')(f:∀w,bf ((p,w)::L) x=xv:=by(intro w;conv=>lhs;whnf)<;>rfl)(k:xv.cells=us:=by first|rfl|assumption)(m:us.length=n:=by first|rfl|simp)(o:a.length=n:=by rfl)(h1:dS us=true:=by repeat first|rfl|assumption|(refine ao ?_ ?_))(hd:xv.bB=true:=by first|rfl|assumption):RO ac c (⟨some p,.alloc e a,none,[],[]⟩::⟨none,.store n (.t p) x,none,[],[]⟩::l) s L H:=by
 refine RO.gI U λH1 q b=>?_;obtain⟨fp,g,_,hu⟩:=b.ki 0 rfl;obtain⟨H',fp',r,i,d⟩:=tB.wx (o:=0) (ws:=us) g af h1;have j:sp a 0 us=us:=by simp[sp,List.drop_eq_nil_of_le (show a.length<=us.length by omega)]
 rw[j]at d;exact RO.store (i:=q) (o:=0) (v:=xv) (by grind) (h H' q (hu i d)) (by show lk (bC L (some p) _) p=_;simp only[bC,lk,ab.ip.2 rfl]) (f _) hd (by grind)
theorem RO.oT(U:aj A H ts){a:List AV}{x y:aJ}(h:∀H' q,aj A H' (tS e size (fO a n) n true (.slice q 0 n n true)::ts)->RO ac c l s (bC L d (.slice q 0 n n true)) H')(hx:bf L x=.int 3 (.ofNat n):=by exact cw)(hy:bf L y=.int 3 (.ofNat n):=by exact cw)(hz:(fO a n).length=n*size)(hb:n*bytes<=70368744177664:=by omega)(b:n<=70368744177664:=by omega):RO ac c (⟨d,.jL e bytes size a x y,none,[],[]⟩::l) s L H:=RO.jL (h _ _ (U.push (bm.new H _) (dU.new hz true true) (uU H))) hx hy
theorem iZ(z:AV):∀n,fO [z] n=ahr n z|0=>rfl|n+1=>by simp only[fO,iZ z n];rfl
theorem RO.qS(U:aj A H ts)(size:Nat){b:List AV}(h:∀H' v,aj A H' (tS e size [] 0 true v::ts)->RO ac c l s (bC L d v) H'):RO ac c (⟨d,.buildSlice e 0 b [],none,[],[]⟩::l) s L H:=RO.V3 (size:=size) λH' a fp' h1 h2 h3=>h H' a (U.push h2 h1 h3)
theorem aj.py(U:aj A H ts)(e size:Nat):aj A H (tS e size [] 0 true .aS::ts):=U.push (fp:=[]) (bm.refl H) (.inl ⟨rfl,rfl,rfl,rfl⟩) λj hj=>by grind
theorem RO.pZ(U:aj A H ts)(i:Nat){x y:aJ}{b:AV}{f:List AV}(hs:Sl H size ws k b)(h:∀H' v,aj A H' (ts.set i (tS e size (vs++ws) (n+k) true v))->RO ac c l s (bC L d v) H')(hi:ts[i]?=some (tS e size vs n true sv):=by rfl)(h1:dS ws=true:=by repeat first|rfl|assumption|(refine ao ?_ ?_))(g:bf L x=sv:=by exact cw)(j:bf L y=b:=by exact cw)(hb:(n+k)*bytes<=70368744177664:=by omega)(m:n+k<=70368744177664:=by omega):RO ac c (⟨d,.append e bytes size f false x y,none,[],[]⟩::l) s L H:=by obtain⟨fp,o,_,hu⟩:=U.ki i hi;exact RO.V4 o hs h1 (λa H' fp' p q=>h H' a (hu q p)) g j hb m
theorem RO.push(U:aj A H ts)(i:Nat){p:ab}{x:aJ}{b:List (Nat×Nat×aJ)}{f a:List AV}(h:∀w H' v,aj A H' (ts.set i (tS e size (vs++ws) (n+1) true v))->RO ac c l s (bC ((p,w)::L) d v) H')(hi:ts[i]?=some (tS e size vs n true sv):=by rfl)(hl:qO L (fO f 1) b=some ws:=by exact cw)(j:ws.length=size:=by first|rfl|simp)(h1:dS ws=true:=by repeat first|rfl|assumption|(refine ao ?_ ?_))(g:∀w,bf ((p,w)::L) x=sv:=by(intro w;conv=>lhs;whnf)<;>rfl)(hb:(n+1)*bytes<=70368744177664:=by omega)(hn:n+1<=70368744177664:=by omega):RO ac c (⟨some p,.buildSlice e 1 f b,none,[],[]⟩::⟨d,.append e bytes size a false x (.t p),none,[],[]⟩::l) s L H:=by
 refine RO.buildSlice ?_ hl h1;have hg:bm H (H.new (.cells (db ws) ws.length e true [] 0)):=bm.new H _;have hs:Sl (H.new (.cells (db ws) ws.length e true [] 0)) size ws 1 (.slice H.next 0 1 1 true):=by have:=(dU.new (H:=H) (e:=e) (size:=size) (n:=1) (vs:=ws) af true true).sl;rw[show ws.length=1*size by omega];exact this
 exact RO.pZ (U.cI hg) i hs (λH' v h2=>h _ H' v h2) hi h1 (g _) (by show lk (bC L (some p) _) p=_;simp only[bC,lk,ab.ip.2 rfl]) hb hn
theorem RO.lf(U:aj A H ts)(size:Nat){a:List (Nat×Nat×aJ)}{b:List AV}(h:∀H' q,aj A H' (tS e size ws n true (.slice q 0 n n true)::ts)->RO ac c l s (bC L d (.slice q 0 n n true)) H')(hl:qO L (fO b n) a=some ws:=by exact cw)(f:ws.length=n*size:=by rfl)(h1:dS ws=true:=by repeat first|rfl|assumption|(refine ao ?_ ?_)):RO ac c (⟨d,.buildSlice e n b a,none,[],[]⟩::l) s L H:=by refine RO.buildSlice ?_ hl h1;rw[f];exact h _ _ (U.push (bm.new H _) (dU.new f true true) (uU H))
theorem aj.uT(U:aj A H ts)(i:Nat)(hi:ts[i]?=some (tS e size vs n full sv))(a:n≠0):∃q cap ex,sv=.slice q 0 n cap ex:=by obtain⟨fp,b⟩:=U.get i hi;exact dU.uT b a
theorem Sl.all(h:Sl H size vs n sv):sv.bB=true/\sv.ee=true/\sv.cells=[sv]/\lenOf sv=some n:=⟨h.bB,h.ee,h.cells,h.len⟩
theorem aj.sl(U:aj A H ts)(i:Nat)(hi:ts[i]?=some (tS e size vs n full sv):=by rfl):Sl H size vs n sv:=by obtain⟨fp,a⟩:=U.get i hi;exact dU.sl a
theorem up{P:Nat->Prop}(n:Nat)(h:∀k,k<=n->(∀j,k<j->j<=n->P j)->P k):∀k,k<=n->P k:=by
 have:∀d k,n - k=d->k<=n->P k:=by intro d;induction d using Nat.strongRecOn with|ind d a=>intro k hd b;exact h k b λj h1 h2=>a (n - j) af j rfl h2
 grind
end
end Go.am
namespace Go.G
structure ic where
 op:Nat
 to:Int
 args:List Int
 n:Int
 m:Int
 name:List Nat
 deriving Inhabited
structure Edge where
 block:Int
 args:List Int
 deriving Inhabited
structure lD where
 op:Nat
 args:List Int
 name:List Nat
 b9:List Nat
 go:List Edge
 deriving Inhabited
structure gV where
 params:List Int
 aD:List ic
 aA:lD
 deriving Inhabited
structure bu where
 name:List Nat
 params:Int
 bp:Int
 al:List gV
 deriving Inhabited
end Go.G
namespace Go.G
structure Sm(g:bu):Prop where
 nb:g.al.length<=5000
 bl:∀b∈g.al,b.params.length<=12/\b.aD.length<=40/\b.aA.args.length<=12/\b.aA.b9.length<=12/\b.aA.go.length<=12/\b.aA.name.length<=60
 st:∀b∈g.al,∀s∈b.aD,s.args.length<=12/\s.name.length<=250
 ed:∀b∈g.al,∀e∈b.aA.go,e.args.length<=12
end Go.G
namespace Go.am
abbrev aU(n:Nat):AV:=.int 4 (.ofNat n)
abbrev Ie(H:ai)(l:List Nat)(sv:AV):Prop:=Sl H 1 (l.map aU) l.length sv
def dV{h:Type}(size:Nat)(R:ai->h->List AV->Prop)(H:ai)(l:List h)(sv:AV):Prop:=
 ∃a,Sl H size a l.length sv/\∀k(b:k<l.length),R H l[k] ((a.drop (k*size)).take size)
def dQ{h c:Type}(R:ai->h->c->Prop):Prop:=∀{H H':ai}{a:h}{b:c},bm H H'->R H a b->R H' a b
def sa(H:ai)(e:G.Edge)(cs:List AV):Prop:=∃v,cs=[aI e.block,v]/\fZ H e.args v
def qT(H:ai)(s:G.ic)(cs:List AV):Prop:=∃v,cs=[aU s.op,aI s.to,v,aI s.n,aI s.m,.str s.name]/\fZ H s.args v
def tw(H:ai)(j:G.lD)(cs:List AV):Prop:=∃a b c,cs=[aU j.op,a,.str j.name,b,c]/\fZ H j.args a/\Ie H j.b9 b/\dV 2 sa H j.go c
def kj(H:ai)(b:G.gV)(cs:List AV):Prop:=∃a c d,cs=a::c::d/\fZ H b.params a/\dV 6 qT H b.aD c/\tw H b.aA d
def iG(H:ai)(g:G.bu)(cs:List AV):Prop:=∃a,cs=[.str g.name,aI g.params,aI g.bp,a]/\dV 7 kj H g.al a
theorem dQ.jU{h:Type}{size:Nat}{R:ai->h->List AV->Prop}(a:dQ R):dQ (dV size R):=λg⟨b,h1,h2⟩=>⟨b,g.sl h1,λk c=>a g (h2 k c)⟩
theorem dQ.If:dQ sa:=λg⟨v,h1,h2⟩=>⟨v,h1,g.sl h2⟩
theorem dQ.step:dQ qT:=λg⟨v,h1,h2⟩=>⟨v,h1,g.sl h2⟩
theorem dQ.Ig:dQ tw:=λg⟨a,b,c,h1,h2,h3,d⟩=>⟨a,b,c,h1,g.sl h2,g.sl h3,dQ.If.jU g d⟩
theorem dQ.block:dQ kj:=λg⟨a,b,c,h1,h2,h3,d⟩=>⟨a,b,c,h1,g.sl h2,dQ.step.jU g h3,dQ.Ig g d⟩
theorem dQ.nM:dQ iG:=λg⟨a,h1,h2⟩=>⟨a,h1,dQ.block.jU g h2⟩
variable{h:Type}{size n k:Nat}{R:ai->h->List AV->Prop}{H:ai}{la:List h}{sv:AV}
theorem dV.len(b:dV size R H la sv):lenOf sv=some la.length:=by obtain⟨a,b,_⟩:=b;exact b.len
theorem dV.bB(b:dV size R H la sv):sv.bB=true:=by obtain⟨a,b,_⟩:=b;exact b.bB
theorem dV.ee(b:dV size R H la sv):sv.ee=true:=by obtain⟨a,b,_⟩:=b;exact b.ee
theorem dV.cells(b:dV size R H la sv):sv.cells=[sv]:=by obtain⟨a,b,_⟩:=b;exact b.cells
theorem dV.all(a:dV size R H la sv):sv.bB=true/\sv.ee=true/\sv.cells=[sv]/\lenOf sv=some la.length:=⟨a.bB,a.ee,a.cells,a.len⟩
theorem dV.at(g:dV size R H la sv)(a:k<la.length):∃q o cap ex cs,sv=.slice q o la.length cap ex/\R H la[k] cs/\cs.length=size/\(∀j v,cs[j]?=some v->bh H q (o+k*size+j)=some v)/\fE H q (o+k*size) size=some cs:=by
 obtain⟨b,h1,h2⟩:=g;have hl:=h1.length;have c:k*size+size<=b.length:=by rw[hl,<-Nat.succ_mul];exact aky _ a
 obtain⟨q,o,cap,ex,e,_,_,d,f⟩:=h1.at af;grind
theorem sa.one{e:G.Edge}{cs:List AV}(a:sa H e cs):dS cs=true:=by obtain⟨v,rfl,a⟩:=a;exact ao rfl (ao a.ee rfl)
theorem qT.one{e:G.ic}{cs:List AV}(a:qT H e cs):dS cs=true:=by obtain⟨v,rfl,a⟩:=a;exact ao rfl (ao rfl (ao a.ee rfl))
theorem tw.one{e:G.lD}{cs:List AV}(d:tw H e cs):dS cs=true:=by obtain⟨a,b,c,rfl,h1,h2,h3⟩:=d;exact ao rfl (ao h1.ee (ao rfl (ao h2.ee (ao h3.ee rfl))))
theorem kj.one{e:G.gV}{cs:List AV}(d:kj H e cs):dS cs=true:=by obtain⟨a,b,c,rfl,h1,h2,h3⟩:=d;exact ao h1.ee (ao h2.ee h3.one)
theorem iG.one{e:G.bu}{cs:List AV}(a:iG H e cs):dS cs=true:=by obtain⟨v,rfl,a⟩:=a;exact ao rfl (ao rfl (ao rfl (ao a.ee rfl)))
variable{ac:Nat->aG}{c:Cx}{s:List SI}{L:Kn}{d:Option ab}{l:List be}
theorem RO.cZ{B:ai}(hg:bm B H){x y:aJ}{j kd:Nat}(hs:dV size R B la sv)(n:∀q o cs(hj:j<la.length),R B la[j] cs->cs.length=size->(∀t v,cs[t]?=some v->bh H q (o+t)=some v)->fE H q o size=some cs->RO ac c l s (bC L d (.az q o)) H)(e:bf L x=sv:=by exact cw)(f:bf L y=.int kd (.ofNat j):=by exact cw)(hj:j<la.length:=by first|assumption|omega):RO ac c (⟨d,.dG size x y,none,[],[]⟩::l) s L H:=by
 obtain⟨q,o,cap,ex,cs,rfl,h1,h2,h3,g⟩:=hs.at hj;have k:∀t,bh H q t=bh B q t/\fE H q t size=fE B q t size:=λt=>by
  obtain⟨m,b,_⟩:=hs;have a:q.an<B.next.an:=by
   rcases b with⟨n,_⟩|⟨i,_,_,_,_,_,_,_,_,_,n,_,_,_,_,hi,_⟩;·cases n
   injection n with n;subst n;exact hi
  exact⟨hg.bh a t,by simp only[fE,hg.dT q a]⟩
 grind[RO.dG,trans]
theorem RO.kz{B:ai}(hg:bm B H){a:List Int}{x y:aJ}{j kd:Nat}(hs:fZ B a sv)(i:∀q o(hj:j<a.length),bh H q o=some (aI a[j])->RO ac c l s (bC L d (.az q o)) H)(b:bf L x=sv:=by exact cw)(e:bf L y=.int kd (.ofNat j):=by exact cw)(hj:j<a.length:=by first|assumption|omega):RO ac c (⟨d,.dG 1 x y,none,[],[]⟩::l) s L H:=RO.V1 (hg.sl hs) (λq o z f g _=>i q o hj (by grind)) b e hj
theorem RO.lg{B:ai}(hg:bm B H){f:h->AV}{x y:aJ}{j kd:Nat}(hs:Sl B 1 (la.map f) la.length sv)(m:∀q o(hj:j<la.length),bh H q o=some (f la[j])->RO ac c l s (bC L d (.az q o)) H)(b:bf L x=sv:=by exact cw)(e:bf L y=.int kd (.ofNat j):=by exact cw)(hj:j<la.length:=by first|assumption|omega):RO ac c (⟨d,.dG 1 x y,none,[],[]⟩::l) s L H:=RO.cZ (R:=λ_ a cs=>cs=[f a]) hg ⟨_,hs,λk g=>by simp[g,alt,aj9]⟩ (λq o cs hj i _ hat _=>m q o hj (by subst i;exact hat 0 _ rfl)) b e hj
theorem RO.V6{B:ai}{g:List AV}{n e:Nat}{x y:aJ}{b k:Nat}(hs:Sl B size g n sv)(z:∀a,Sl B size (g.take (b*size)) b a->RO ac c l s (bC L d a) H)(p:bf L x=sv:=by exact cw)(q:bf L y=.int k (.ofNat b):=by exact cw)(hb:b<=n:=by omega):RO ac c (⟨d,.im e size x none (some y) none,none,[],[]⟩::l) s L H:=by
 rcases hs with⟨rfl,rfl,rfl⟩|⟨i,o,cap,ex,t,m,u,f,aM,fz,rfl,hg,w,hl,v,hi,r⟩;·have:b=0:=af;subst this;refine RO.Cb (m:=0) (b:=0) (a:=0) p rfl ?_ rfl (z _ (.inl ⟨rfl,rfl,aB⟩));simp only[l7,q];rfl
 refine RO.im (m:=cap) (b:=b) (a:=0) p rfl ?_ rfl aB ?_;·simp only[l7,q];exact tu af
 have e1:(if ex&&decide (cap=0)then o else o+0*size)=o:=by split<;>omega
 rw[e1,alJ,alJ];have cA:b*size<=n*size:=aky _ hb;refine z _ (.inr ⟨i,o,cap,_,t,m,u,f,aM,fz,rfl,hg,af,?_,λj hj=>?_,hi,af⟩);·rw[akF];omega
 rw[akF]at hj;rw[v j af];simp
theorem RO.V7{p:List AV}{n e:Nat}{x y:aJ}{b k o cap:Nat}{q:ab}(hs:Sl H size p n (.slice q o n cap true))(D:∀a,Sl H size (p.drop (b*size)) (n - b) a->RO ac c l s (bC L d a) H)(u:bf L x=.slice q o n cap true:=by exact cw)(hy:bf L y=.int k (.ofNat b):=by exact cw)(hb:b<=n:=by omega):RO ac c (⟨d,.im e size x (some y) none none,none,[],[]⟩::l) s L H:=by
 rcases hs with⟨h0,_⟩|⟨i,B,r,ex,v,m,w,f,aM,fz,h0,hg,C,hl,z,hi,t⟩;·grind
 injection h0 with h1 h2 _ h3 A;subst h1;subst h2;subst h3;subst A;refine RO.im (m:=cap) (b:=n) (a:=b) u rfl (by simp[l7]) ?_ aB ?_;·simp only[l7,hy];exact tu hb
 have cA:b*size<=n*size:=aky _ hb;refine D _ (.inr ⟨q,_,_,_,v,m,w,f,aM,fz,rfl,hg,?_,?_,λj hj=>?_,hi,af⟩);·rw[Nat.sub_mul];split<;>omega
 .rw[alC,hl,Nat.sub_mul]
 rw[alC]at hj;split;·rename_i g;simp only[Bool.true_and,decide_eq_true_eq]at g;have:b=n:=af;subst this;omega
 rw[alo,z (b*size+j) af];simp
theorem RO.V8{B:ai}{e:Nat}{x y:aJ}{b k:Nat}(hs:dV size R B la sv)(m:∀a,dV size R B (la.take b) a->RO ac c l s (bC L d a) H)(g:bf L x=sv:=by exact cw)(i:bf L y=.int k (.ofNat b):=by exact cw)(hb:b<=la.length:=by omega):RO ac c (⟨d,.im e size x none (some y) none,none,[],[]⟩::l) s L H:=by obtain⟨j,h1,h2⟩:=hs;refine RO.V6 h1 (λa h3=>m a ⟨_,by rw[akF,aly hb];exact h3,λk f=>?_⟩) g i hb;rw[akF,aly hb]at f;have:=h2 k af;rw[List.getElem_take,List.drop_take,List.take_take,aly (by have:(k+1)*size<=b*size:=aky _ f;rw[Nat.succ_mul]at this;omega)];exact this
def pk(M:Kn):List ab->Kn
 |[]=>[]
 |p::l=>(p,lk M p)::pk M l
theorem Ru.nm{H:ai}(a:∀S M,S=s->M=L->Ru ac c S M H):Ru ac c s L H:=a s L rfl rfl
theorem ky.pk(M:Kn):∀a,ky (pk M a) M|[]=>trivial|_::l=>⟨rfl,ky.pk M l⟩
theorem ky.wz{M K:Kn}(h2:ky K M):∀{l:Kn},ky l M->ky (l++K) M|[],_=>h2|_::_,a=>⟨a.1,ky.wz h2 a.2⟩
theorem Ru.cC{M L cO:Kn}{a:List ab}{H:ai}(b:M=L)(d:Ru ac c s (cO++pk M a) H)(hl:ky cO L:=by repeat'(first|exact trivial|refine⟨rfl,?_⟩)):Ru ac c s M H:=d.rZ (ky.wz (ky.pk M a) (by grind))
theorem Ru.wk{M:Kn}{H:ai}(a:Ru ac c s L H)(hl:ky L M:=by repeat'(first|exact trivial|refine⟨rfl,?_⟩)):Ru ac c s M H:=a.rZ hl
end Go.am
namespace Go.am.R
abbrev Ih:=292
abbrev dW:=56
abbrev mE:=161
abbrev fI:=24
abbrev wA:=257
abbrev eH:=42
abbrev yi:=217
abbrev nN:=260
abbrev tx:=54
abbrev qU:=58
abbrev yj:=64
abbrev Ii:=255
abbrev Ij:=252
abbrev ND:=256
abbrev V9:=246
abbrev V':=194
abbrev Wa:=195
abbrev Wb:=61
abbrev Wc:=78
abbrev iH:=72
abbrev NE:=168
abbrev Ik:=123
abbrev eT:=82
abbrev oU:=79
abbrev NF:=197
abbrev wB:=196
abbrev nO:=139
abbrev Il:=135
abbrev Ap:=86
abbrev Ek:=232
abbrev tz:=109
abbrev nP:=234
abbrev Im:=177
abbrev NG:=50
def p0:ab:=.xH
def p1:ab:=.xO p0
def p2:ab:=.xI p0
def p3:ab:=.xO p1
def p4:ab:=.xI p1
def p5:ab:=.xO p2
def p6:ab:=.xI p2
def p7:ab:=.xO p3
def p8:ab:=.xI p3
def p9:ab:=.xO p4
def aO:ab:=.xI p4
def aR:ab:=.xO p5
def aY:ab:=.xI p5
def aX:ab:=.xO p6
def bi:ab:=.xI p6
def bk:ab:=.xO p7
def bo:ab:=.xI p7
def aZ:ab:=.xO p8
def br:ab:=.xI p8
def bJ:ab:=.xO p9
def bN:ab:=.xI p9
def bR:ab:=.xO aO
def bO:ab:=.xI aO
def bL:ab:=.xO aR
def bK:ab:=.xI aR
def bT:ab:=.xO aY
def ch:ab:=.xI aY
def bY:ab:=.xO aX
def ct:ab:=.xI aX
def cz:ab:=.xO bi
def b7:ab:=.xI bi
def cW:ab:=.xO bk
def cV:ab:=.xI bk
def cH:ab:=.xO bo
def di:ab:=.xI bo
def cD:ab:=.xO aZ
def bZ:ab:=.xI aZ
def dl:ab:=.xO br
def dh:ab:=.xI br
def du:ab:=.xO bJ
def dw:ab:=.xI bJ
def dg:ab:=.xO bN
def da:ab:=.xI bN
def dj:ab:=.xO bR
def dq:ab:=.xI bR
def dA:ab:=.xO bO
def dt:ab:=.xI bO
def cJ:ab:=.xO bL
def dB:ab:=.xI bL
def dH:ab:=.xO bK
def dX:ab:=.xI bK
def dM:ab:=.xO bT
def dk:ab:=.xI bT
def cR:ab:=.xO ch
def dY:ab:=.xI ch
def dZ:ab:=.xO bY
def dR:ab:=.xI bY
def eM:ab:=.xO ct
def d9:ab:=.xI ct
def eI:ab:=.xO cz
def eN:ab:=.xI cz
def eg:ab:=.xO b7
def ep:ab:=.xI b7
def fy:ab:=.xO cW
def fS:ab:=.xI cW
def fg:ab:=.xO cV
def eO:ab:=.xI cV
def gp:ab:=.xO cH
def eJ:ab:=.xI cH
def fJ:ab:=.xO di
def fU:ab:=.xI di
def gf:ab:=.xO cD
def fK:ab:=.xI cD
def eR:ab:=.xO bZ
def fV:ab:=.xI bZ
def ff:ab:=.xO dl
def fL:ab:=.xI dl
def fW:ab:=.xO dh
def ie:ab:=.xI dh
def fM:ab:=.xO du
def iq:ab:=.xI du
def iB:ab:=.xO dw
def ir:ab:=.xI dw
def iC:ab:=.xO dg
def iU:ab:=.xI dg
def jD:ab:=.xO da
def jk:ab:=.xI da
def kl:ab:=.xO dj
def jw:ab:=.xI dj
def lE:ab:=.xO dq
def mR:ab:=.xI dq
def l8:ab:=.xO dA
def lh:ab:=.xI dA
def jV:ab:=.xO dt
def kA:ab:=.xI dt
def jW:ab:=.xO cJ
def nQ:ab:=.xI cJ
def mS:ab:=.xO dB
def li:ab:=.xI dB
def mT:ab:=.xO dH
def nR:ab:=.xI dH
def oV:ab:=.xO dX
def oW:ab:=.xI dX
def oX:ab:=.xO dM
def lj:ab:=.xI dM
def km:ab:=.xO dk
def mF:ab:=.xI dk
def mU:ab:=.xO cR
def lF:ab:=.xI cR
def pz:ab:=.xO dY
def lm:ab:=.xI dY
def nS:ab:=.xO dZ
def oY:ab:=.xI dZ
def lG:ab:=.xO dR
def lH:ab:=.xI dR
def kP:ab:=.xO eM
def l9:ab:=.xI eM
def nT:ab:=.xO d9
def lI:ab:=.xI d9
def nU:ab:=.xO eI
def nV:ab:=.xI eI
def lJ:ab:=.xO eN
def nW:ab:=.xI eN
def pA:ab:=.xO eg
def qV:ab:=.xI eg
def nX:ab:=.xO ep
def kB:ab:=.xI ep
def qW:ab:=.xO fy
def qf:ab:=.xI fy
def oZ:ab:=.xO fS
def qh:ab:=.xI fS
def pB:ab:=.xO fg
def tA:ab:=.xI fg
def qX:ab:=.xO eO
def mV:ab:=.xI eO
def sc:ab:=.xO gp
def uV:ab:=.xI gp
def uW:ab:=.xO eJ
def nY:ab:=.xI eJ
def wC:ab:=.xO fJ
def wD:ab:=.xI fJ
def tC:ab:=.xO fU
def sd:ab:=.xI fU
def tD:ab:=.xO gf
def wE:ab:=.xI gf
def tE:ab:=.xO fK
def Aq:ab:=.xI fK
def yl:ab:=.xO eR
def Cc:ab:=.xI eR
def pC:ab:=.xO fV
def yn:ab:=.xI fV
def yo:ab:=.xO ff
def Ar:ab:=.xI ff
def As:ab:=.xO fL
def yp:ab:=.xI fL
def Au:ab:=.xO fW
def Av:ab:=.xI fW
def Aw:ab:=.xO ie
def Cd:ab:=.xI ie
def El:ab:=.xO fM
def Io:ab:=.xI fM
def Ip:ab:=.xO iq
def Ce:ab:=.xI iq
def wF:ab:=.xO iB
def wG:ab:=.xI iB
def Em:ab:=.xO ir
def Cf:ab:=.xI ir
def En:ab:=.xO iC
def Iq:ab:=.xI iC
def yq:ab:=.xO iU
def Eo:ab:=.xI iU
def Ep:ab:=.xO jD
def yr:ab:=.xI jD
def Er:ab:=.xO jk
def Es:ab:=.xI jk
def Ir:ab:=.xO kl
def Et:ab:=.xI kl
def Eu:ab:=.xO jw
def qY:ab:=.xI jw
def Ev:ab:=.xO lE
def Cg:ab:=.xI lE
def NH:ab:=.xO mR
def Ci:ab:=.xI mR
def NI:ab:=.xO l8
def Is:ab:=.xI l8
def It:ab:=.xO lh
def NJ:ab:=.xI lh
def qZ:ab:=.xO jV
def NK:ab:=.xI jV
def NL:ab:=.xO kA
def Ew:ab:=.xI kA
def NM:ab:=.xO jW
def NN:ab:=.xI jW
def NO:ab:=.xO nQ
def NP:ab:=.xI nQ
def NQ:ab:=.xO mS
def Iu:ab:=.xI mS
def NR:ab:=.xO li
def NS:ab:=.xI li
def ahD:ab:=.xO mT
def ahE:ab:=.xI mT
def ahF:ab:=.xO nR
def ahG:ab:=.xI nR
def ahH:ab:=.xO oV
def ahI:ab:=.xI oV
def ahJ:ab:=.xO oW
def ahK:ab:=.xI oW
def ahL:ab:=.xO oX
def ahM:ab:=.xI oX
def ahN:ab:=.xO lj
def ahO:ab:=.xI lj
def ahP:ab:=.xO km
def ahQ:ab:=.xI km
def ahR:ab:=.xO mF
def ahS:ab:=.xI mF
def ahT:ab:=.xO mU
def ahU:ab:=.xI mU
def ahV:ab:=.xO lF
def ahW:ab:=.xI lF
def ahX:ab:=.xO pz
def ahY:ab:=.xI pz
def ahZ:ab:=.xO lm
def ah0:ab:=.xI lm
def ah1:ab:=.xO nS
def ah2:ab:=.xI nS
def ah3:ab:=.xO oY
def ah4:ab:=.xI oY
def ah5:ab:=.xO lG
def ah6:ab:=.xI lG
def ah7:ab:=.xO lH
def ah8:ab:=.xI lH
def ah9:ab:=.xO kP
def aia:ab:=.xI kP
def aib:ab:=.xO l9
def aic:ab:=.xI l9
def aid:ab:=.xO nT
def aie:ab:=.xI nT
def aif:ab:=.xO lI
def aig:ab:=.xI lI
def aih:ab:=.xO nU
def aii:ab:=.xI nU
def aij:ab:=.xO nV
def aik:ab:=.xI nV
def ail:ab:=.xO lJ
def aim:ab:=.xI lJ
def ain:ab:=.xO nW
def aio:ab:=.xI nW
def aip:ab:=.xO pA
def aiq:ab:=.xI pA
def air:ab:=.xO qV
def ais:ab:=.xI qV
def ait:ab:=.xO nX
def aiu:ab:=.xI nX
def aiv:ab:=.xO kB
def aiw:ab:=.xI kB
def aix:ab:=.xO qW
def aiy:ab:=.xI qW
def aiz:ab:=.xO qf
def aiA:ab:=.xI qf
def aiB:ab:=.xO oZ
def aiC:ab:=.xI oZ
def aiD:ab:=.xO qh
def aiE:ab:=.xI qh
def aiF:ab:=.xO pB
def aiG:ab:=.xI pB
def aiH:ab:=.xO tA
def aiI:ab:=.xI tA
def aiJ:ab:=.xO qX
def aiK:ab:=.xI qX
def aiL:ab:=.xO mV
def aiM:ab:=.xI mV
def aiN:ab:=.xO sc
def aiO:ab:=.xI sc
def aiP:ab:=.xO uV
def aiQ:ab:=.xI uV
def aiR:ab:=.xO uW
def aiS:ab:=.xI uW
def aiT:ab:=.xO nY
def aiU:ab:=.xI nY
def aiV:ab:=.xO wC
def aiW:ab:=.xI wC
def aiX:ab:=.xO wD
def aiY:ab:=.xI wD
def aiZ:ab:=.xO tC
def ai0:ab:=.xI tC
def ai1:ab:=.xO sd
def ai2:ab:=.xI sd
def ai3:ab:=.xO tD
def ai4:ab:=.xI tD
def ai5:ab:=.xO wE
def ai6:ab:=.xI wE
def ai7:ab:=.xO tE
def ai8:ab:=.xI tE
def ai9:ab:=.xO Aq
def aja:ab:=.xI Aq
def ajb:ab:=.xO yl
def ajc:ab:=.xI yl
def ajd:ab:=.xO Cc
def aje:ab:=.xI Cc
def ajf:ab:=.xO pC
def ajg:ab:=.xI pC
def ajh:ab:=.xO yn
def aji:ab:=.xI yn
def ajj:ab:=.xO yo
def ajk:ab:=.xI yo
def ajl:ab:=.xO Ar
def ajm:ab:=.xI Ar
def ajn:ab:=.xO As
def ajo:ab:=.xI As
def ajp:ab:=.xO yp
def ajq:ab:=.xI yp
def ajr:ab:=.xO Au
def ajs:ab:=.xI Au
def ajt:ab:=.xO Av
def aju:ab:=.xI Av
def ajv:ab:=.xO Aw
def ajw:ab:=.xI Aw
def ajx:ab:=.xO Cd
def ajy:ab:=.xI Cd
def ajz:ab:=.xO El
def ajA:ab:=.xI El
abbrev Wd:=8
abbrev We:=9
abbrev NT:=10
abbrev Wf:=11
abbrev Wg:=13
abbrev Wh:=18
abbrev Wi:=21
abbrev Wj:=22
abbrev Wk:=23
abbrev Wl:=26
abbrev Wm:=28
abbrev Wn:=29
abbrev Wo:=33
abbrev NU:=34
abbrev Wp:=35
abbrev Wq:=37
abbrev Ws:=39
abbrev Wt:=40
abbrev Wu:=41
abbrev Wv:=42
abbrev Ww:=45
abbrev Wx:=50
abbrev Wy:=52
abbrev Wz:=53
abbrev WA:=56
abbrev WB:=57
abbrev WC:=59
abbrev WD:=60
abbrev WE:=61
abbrev WF:=68
abbrev WG:=73
abbrev WH:=74
abbrev WI:=75
abbrev WJ:=77
abbrev NV:=78
abbrev WK:=82
abbrev WL:=83
abbrev WM:=84
abbrev WN:=85
abbrev Iv:=88
abbrev WO:=89
abbrev WP:=91
abbrev WQ:=92
abbrev WR:=96
abbrev WS:=113
abbrev WT:=114
abbrev WU:=115
abbrev WV:=116
abbrev Ex:=117
abbrev WW:=118
abbrev WX:=119
abbrev WY:=121
abbrev WZ:=122
abbrev W0:=124
abbrev W1:=125
abbrev W2:=126
abbrev W3:=127
abbrev W4:=128
abbrev W5:=129
abbrev W6:=131
abbrev Ey:=132
abbrev W7:=133
abbrev W8:=140
abbrev W9:=141
abbrev Xa:=142
abbrev Xb:=143
abbrev Xd:=145
abbrev Xe:=146
abbrev Xg:=147
abbrev Xh:=149
abbrev Xi:=151
abbrev Xj:=171
abbrev Xk:=172
abbrev NW:=173
abbrev Xl:=174
abbrev Xm:=175
abbrev Xn:=176
abbrev Xp:=177
abbrev Iw:=178
abbrev Xq:=180
abbrev Xr:=181
abbrev Xs:=182
abbrev NX:=191
abbrev NY:=192
abbrev NZ:=193
abbrev Ix:=194
abbrev Xt:=195
abbrev Iy:=196
abbrev Xu:=197
abbrev Xv:=198
abbrev Iz:=199
abbrev N0:=200
abbrev Xw:=201
abbrev Xx:=202
abbrev Xy:=203
abbrev Xz:=204
abbrev Ez:=205
abbrev XA:=206
abbrev EA:=207
abbrev EB:=208
abbrev XB:=209
abbrev XC:=214
abbrev XD:=215
abbrev XE:=219
abbrev IA:=220
abbrev N1:=221
abbrev XF:=222
abbrev XG:=223
abbrev XH:=226
abbrev XI:=227
abbrev XJ:=228
abbrev XK:=229
abbrev XL:=230
abbrev XM:=232
abbrev XN:=233
abbrev N3:=234
abbrev XO:=235
abbrev XP:=236
abbrev XQ:=238
abbrev XR:=239
abbrev N4:=240
abbrev XS:=241
abbrev XT:=242
abbrev XU:=243
abbrev IB:=244
abbrev XV:=245
abbrev XW:=247
abbrev N5:=254
abbrev N6:=38
namespace Y
abbrev m(d a:ab):=O d (.bg (T a))
abbrev l(d a:ab):=O d (.aW (T a))
abbrev a(d:ab)(n:Nat)(a:ab):=O d (.j6 n (T a))
abbrev x(d:ab)(n:Nat)(a b:ab):=O d (.dG n (T a) (T b))
abbrev s(n:Nat)(a b:ab):=N (.store n (T a) (T b))
abbrev k(d:ab)(n:Nat):=O d (.bg (I 3 n))
abbrev z(d a:ab):=O d (.j7 (T a))
abbrev e(d a:ab)(n:Nat):=O d (.arith .eql 3 (T a) (I 3 n))
abbrev eu(d a:ab)(n:Nat):=O d (.arith .eql 2 (T a) (I 2 n))
abbrev f(d:ab):=O d (.bg (C (.bool false)))
abbrev kC(d:ab):=O d (.bg (C (.bool true)))
abbrev ld(d:ab)(n:Nat)(a:ab):=O d (.gw n (T a))
abbrev gm(d a g:ab)(b:Bool):=G d (.bg (T a)) g b
abbrev gl(d a g:ab)(b:Bool):=G d (.aW (T a)) g b
abbrev ga(d:ab)(n:Nat)(a g:ab)(b:Bool):=G d (.j6 n (T a)) g b
abbrev u(d a b:ab):=O d (.arith .lss 3 (T a) (T b))
abbrev pl(d a:ab)(n:Nat):=O d (.arith .add 3 (T a) (I 3 n))
abbrev b(d:ab)(n:Nat)(a:ab):=O d (.box n (T a))
abbrev o(d a b:ab):=O d (.pick (T a) (C (.bool true)) (T b))
abbrev y(d a b:ab):=O d (.pick (T a) (T b) (C (.bool false)))
abbrev no(d a:ab):=O d (.unary .not (T a))
abbrev c(d:ab)(n:Nat)(l:List aJ):=O d (.call (C (.func n [] [])) l)
abbrev ex(d a:ab)(n:Nat):=O d (.extract (T a) n)
abbrev nc(d a:ab):=O d (.nilCheck (T a))
abbrev nl(d:ab):=O d (.bg (C .aS))
abbrev cT:=C (.bool true)
abbrev cF:=C (.bool false)
abbrev cN:=C .aS
abbrev r:=bt.region
abbrev S:=bt.seq
abbrev H:=bt.cond
abbrev Bl:=bt.block
abbrev Lp:=bt.loop
abbrev X:=bt.exit
abbrev q(l:List be)(x:bt):bt:=.seq (.region l) x
abbrev t1:=T p1
abbrev t2:=T p2
abbrev t3:=T p3
abbrev t4:=T p4
abbrev t5:=T p5
abbrev t6:=T p6
abbrev t7:=T p7
abbrev t8:=T p8
abbrev t9:=T p9
abbrev fA:=T aO
abbrev kD:=T aR
abbrev kn:=T aY
abbrev kQ:=T aX
abbrev jX:=T bi
abbrev ma:=T bk
abbrev jE:=T bo
abbrev jF:=T aZ
abbrev jG:=T br
abbrev mW:=T bJ
abbrev kR:=T bN
abbrev qi:=T bR
abbrev mG:=T bO
abbrev mX:=T bL
abbrev qj:=T bK
abbrev tF:=T bT
abbrev o0:=T ch
abbrev qk:=T bY
abbrev t28:=T ct
abbrev nZ:=T cz
abbrev yt:=T b7
abbrev n6:=T cW
abbrev tG:=T cV
abbrev rc:=T cH
abbrev n8:=T di
abbrev se:=T cD
abbrev yu:=T bZ
abbrev n9:=T dl
abbrev uX:=T dh
abbrev sf:=T du
abbrev tH:=T dw
abbrev pD:=T dg
abbrev Ax:=T da
abbrev uY:=T dj
abbrev ql:=T dq
abbrev uZ:=T dA
abbrev t46:=T dt
abbrev tJ:=T cJ
abbrev si:=T dB
abbrev u6:=T dH
abbrev yw:=T dX
abbrev t51:=T dM
abbrev yz:=T dk
abbrev t53:=T cR
abbrev tL:=T dY
abbrev yA:=T dZ
abbrev Ay:=T dR
abbrev u9:=T eM
abbrev rf:=T d9
abbrev wH:=T eI
abbrev vc:=T eN
abbrev Az:=T eg
abbrev AA:=T ep
abbrev AB:=T fy
abbrev yB:=T fS
abbrev Cj:=T fg
abbrev Ck:=T eO
abbrev AC:=T gp
abbrev AD:=T eJ
abbrev AF:=T fJ
abbrev tP:=T fU
abbrev vf:=T gf
abbrev wI:=T fK
abbrev AG:=T eR
abbrev AH:=T fV
abbrev AI:=T ff
abbrev IC:=T fL
abbrev AJ:=T fW
abbrev AL:=T ie
abbrev EC:=T fM
abbrev Cl:=T iq
abbrev AM:=T iB
abbrev ID:=T ir
abbrev N7:=T iC
abbrev XX:=T iU
abbrev ED:=T jD
abbrev IE:=T jk
abbrev t87:=T kl
abbrev EE:=T jw
abbrev N8:=T lE
abbrev EF:=T mR
abbrev EG:=T l8
abbrev N9:=T lh
abbrev Oa:=T jV
abbrev XY:=T kA
abbrev Ob:=T jW
abbrev IF:=T nQ
abbrev XZ:=T mS
abbrev X8:=T li
abbrev Oc:=T mT
abbrev Od:=T nR
abbrev EH:=T oV
abbrev IG:=T oW
abbrev IH:=T oX
abbrev II:=T lj
abbrev X9:=T mF
abbrev X':=T mU
abbrev Ya:=T lF
abbrev Yb:=T pz
abbrev IJ:=T lm
abbrev IK:=T nS
abbrev Oe:=T oY
abbrev Of:=T lG
abbrev ajC:=T lH
abbrev Og:=T kP
abbrev Oh:=T l9
abbrev Yc:=T nT
abbrev Yd:=T lI
abbrev Oi:=T nU
abbrev Ye:=T nV
abbrev Oj:=T lJ
abbrev IL:=T nW
abbrev ajD:=T pA
abbrev IM:=T qV
abbrev Yf:=T nX
abbrev Ol:=T kB
abbrev Om:=T qW
abbrev On:=T qf
abbrev IN:=T oZ
abbrev EI:=T qh
abbrev t131:=T pB
abbrev IP:=T tA
abbrev Oo:=T mV
abbrev Oq:=T sc
abbrev EJ:=T uV
abbrev Ot:=T uW
abbrev IQ:=T nY
abbrev Yg:=T wC
abbrev Yh:=T wD
abbrev ajE:=T tC
abbrev Yi:=T sd
abbrev Yj:=T tD
abbrev Yk:=T tE
abbrev ajF:=T Aq
abbrev ajG:=T yl
abbrev ajH:=T pC
abbrev ajI:=T yn
abbrev ajJ:=T yo
abbrev Yl:=T Ar
abbrev ajK:=T yp
abbrev ajL:=T Au
abbrev Ym:=T Aw
abbrev ajM:=T Ce
abbrev ajN:=T Em
abbrev ajO:=T Cf
abbrev Yn:=T En
abbrev Ou:=T yq
abbrev Yo:=T Eo
abbrev Yp:=T Ep
abbrev ajP:=T yr
abbrev ajQ:=T Er
abbrev ajR:=T Es
abbrev Yq:=T Ir
abbrev ajS:=T qY
abbrev ajT:=T Ev
abbrev ajU:=T Cg
abbrev t182:=T Ci
abbrev t183:=T NI
abbrev ajV:=T Is
abbrev ajW:=T It
abbrev ajX:=T qZ
abbrev Yr:=T NK
abbrev Ys:=T NL
abbrev ajY:=T Ew
abbrev Yt:=T NM
abbrev Yu:=T NN
abbrev Yv:=T NO
abbrev Yw:=T NP
abbrev Yx:=T NQ
abbrev ajZ:=T Iu
abbrev Yy:=T NS
abbrev i0:=I 3 0
abbrev i1:=I 3 1
abbrev i2:=I 3 2
abbrev i3:=I 3 3
abbrev i4:=I 3 4
abbrev i5:=I 3 5
abbrev i6:=I 3 6
abbrev i7:=I 3 7
abbrev i8:=I 3 8
abbrev v0:=Go.am.i 3 0
abbrev K0(b:ab)(a:Nat)(c:ab)(d:Nat):be:=O b (.arith .eql a (T c) (I a d))
abbrev K1(a:ab):be:=O a (.alloc 56 [.aS,.aS,(i 4 0),.aS,(.str []),.aS,.aS])
abbrev K2(a:ab)(b:ab)(c:Nat)(d:Nat)(e:Nat):be:=O a (.iE .eql (T b) (C (.str [c,d,e])))
abbrev K3(a:ab)(b:ab)(c:ab):be:=gl a b c false
abbrev K4(a:ab)(b:ab)(c:ab):be:=O a (.append 3 8 1 [v0] false (T b) (T c))
abbrev K5(a:ab)(b:Nat)(c:ab)(d:ab):be:=ga a b c d false
abbrev K6(a:ab)(b:ab):be:=O a (.arith .sub 3 (T b) i1)
abbrev K7(a:ab)(b:ab)(c:Nat)(d:Nat)(e:Nat)(f:Nat):be:=O a (.iE .eql (T b) (C (.str [c,d,e,f])))
abbrev K8(a:ab)(b:ab)(c:ab):be:=gm a b c true
abbrev K9(a:ab)(b:Nat)(c:Nat)(d:ab):be:=N (.jy .int (T a) (I b c) (T d))
abbrev qp(a:ab)(b:ab):be:=O a (.buildSlice 3 1 [v0] [(0,1,(T b))])
abbrev d8(a:ab)(b:ab)(c:ab):be:=gm a b c false
abbrev og(b:ab)(a:Nat)(c:ab)(d:Nat)(e:ab):be:=G b (.arith .gtr a (T c) (I a d)) e false
abbrev pa(a:ab)(b:ab)(c:ab):be:=gl a b c true
abbrev mc(a:ab)(b:ab)(c:ab):be:=G a (.unary .not (T b)) c false
abbrev oh(a:ab)(b:Nat):be:=O a (.alloc b [.aS])
abbrev EK(a:ab)(b:Nat)(c:ab)(d:ab):be:=ga a b c d true
abbrev sj(a:ab):be:=O a (.buildSlice 3 0 [v0] [])
abbrev AN(a:ab):be:=O a (.alloc 58 [(i 4 0),v0,.aS,v0,v0,(.str [])])
abbrev ln(a:ab)(b:ab)(c:ab):be:=G a (.j7 (T b)) c true
abbrev md(a:ab)(b:ab)(c:ab):be:=G a (.j7 (T b)) c false
abbrev vh(a:ab)(b:Nat)(c:ab)(d:ab)(e:ab):be:=G a (.call (C (.func b [] [])) [(T c),(T d)]) e false
abbrev qq(a:ab)(b:ab):be:=O a (.arith .geq 3 (T b) i0)
abbrev EL(a:ab):be:=O a (.alloc 177 [(.str []),(.bool false),v0,(.bool false),v0,v0,v0,v0])
abbrev Cm(a:ab):be:=O a (.alloc 86 [.aS,.aS,(.bool false)])
abbrev pE(a:ab)(b:ab)(c:ab)(d:ab):be:=G a (.pick (T b) (T c) cF) d false
abbrev vi(a:ab)(b:ab)(c:Nat)(d:Nat):be:=O a (.iE .eql (T b) (C (.str [c,d])))
abbrev wJ(a:ab):be:=O a (.alloc 64 [v0,.aS])
abbrev pb(a:ab)(b:Nat)(c:ab):be:=O a (.iP b [] [(T c)])
abbrev tQ(a:ab):be:=O a (.bg (C .nilFunc))
abbrev vj(b:ab)(a:Nat)(c:ab)(d:Nat)(e:ab):be:=G b (.arith .eql a (T c) (I a d)) e false
abbrev sn(a:ab)(b:ab)(c:ab):be:=G a (.unary .not (T b)) c true
abbrev lL(a:ab)(b:ab)(c:ab):be:=O a (.call (T b) [(T c)])
abbrev yC(a:ab)(b:Nat)(c:ab)(d:ab)(e:ab)(f:ab):be:=G a (.call (C (.func b [] [])) [(T c),(T d),(T e)]) f true
abbrev AO(a:ab)(b:ab):be:=pl a b 1
abbrev IR(e:ab)(f:Nat)(a:Nat)(g:Nat)(h:Nat)(i:Nat)(j:Nat)(k:Nat)(l:Nat)(m:Nat)(b:Nat)(c:Nat)(d:Nat):be:=O e (.build [(.str []),(.bool false),v0,(.bool false),v0,v0,v0,v0] [(f,a,(C (.str [g,h,i,j]))),(a,a,cT),(k,a,i1),(l,a,cF),(m,a,i0),(b,a,i0),(c,a,i0),(d,a,i0)])
abbrev wK(a:ab)(b:ab)(c:ab):be:=G a (.arith .eql 3 (T b) i0) c true
abbrev EM(a:ab):be:=O a (.alloc 274 [(.bool false),v0,v0,.nilFunc,v0,v0])
abbrev rh(a:ab):be:=N (.store 1 (T a) cT)
abbrev vm(a:ab)(b:ab):be:=O a (.arith .neq 3 (T b) i0)
abbrev oq(a:ab)(b:Nat)(c:ab):be:=O a (.kX b (T c))
abbrev Cn(a:ab)(b:ab)(c:ab):be:=O a (.build [v0,.aS] [(0,1,(T b)),(1,1,(T c))])
abbrev Co(b:ab)(a:ab):be:=O b (.jL 4 1 1 [(.bool false)] (T a) (T a))
abbrev bS(a:ab):be:=k a 0
abbrev mY(a:ab)(b:ab)(c:ab)(d:ab):be:=O a (.call (T b) [(T c),(T d)])
abbrev IS(a:ab):be:=O a (.alloc 54 [(i 4 0),.aS,(.str []),.aS,.aS])
abbrev tT(a:ab)(b:ab)(c:ab):be:=O a (.arith .neq 3 (T b) (T c))
abbrev so(a:ab)(b:Nat)(c:ab)(d:ab)(e:ab):be:=G a (.dG b (T c) (T d)) e false
abbrev sq(a:ab)(b:Nat)(c:ab)(d:ab):be:=O a (.arith .add b (T c) (T d))
abbrev yD(a:ab):be:=O a (.bg (C .lS))
abbrev Cp(a:ab)(b:Nat)(c:ab)(d:ab):be:=G a (.call (C (.func b [] [])) [(T c)]) d true
abbrev AP(a:ab)(b:Nat)(c:Nat)(d:ab)(e:ab):be:=O a (.im b c (T d) none (some (T e)) none)
abbrev Cq(a:ab):be:=O a (.alloc 4 [(.bool false)])
abbrev sr(a:ab)(b:Nat)(c:ab)(d:ab)(e:ab):be:=G a (.dG b (T c) (T d)) e true
abbrev Cr(a:ab)(b:Nat)(c:ab)(d:ab)(e:ab):be:=G a (.call (C (.func b [] [])) [(T c),(T d)]) e true
abbrev ey(a:ab)(c:Nat)(d:ab)(b:ab)(e:ab)(f:List be):List be:=EK a c d b::pa e a b::f
abbrev fN(b:ab)(e:Nat)(f:ab)(c:ab)(d:ab)(g:ab)(h:ab)(i:Nat)(j:List be):List be:=a b e f::l c b::m d g::x h i c d::j
abbrev dD(b:ab)(d:Nat)(e:ab)(c:ab)(f:ab)(g:List be):List be:=a b d e::l c b::z f c::g
abbrev dE(a:ab)(c:Nat)(d:ab)(b:ab)(e:ab)(f:List be):List be:=K5 a c d b::K3 e a b::f
abbrev ig(a:ab)(b:ab)(c:ab)(d:List be):List be:=m a b::AO c a::m b c::d
abbrev mZ(a:ab)(d:ab)(b:ab)(c:ab)(e:ab)(f:ab)(g:List be):List be:=m a d::ex b a 0::ex c a 1::m e b::m f c::g
abbrev jH(a:ab)(d:ab)(b:ab)(e:ab)(c:ab)(f:ab)(g:List be):List be:=m a d::m b e::x c 1 a b::l f c::g
abbrev gu(a:ab)(b:ab)(c:List be):List be:=AO a b::m b a::c
abbrev me(b:ab)(e:ab)(c:ab)(f:Nat)(d:ab)(g:Nat)(h:ab)(i:List be):List be:=nc b e::a c f b::a d g c::l h d::i
abbrev cK(a:ab)(b:Nat)(c:ab)(d:Nat)(e:ab)(f:List be):List be:=K0 a b c d::m e a::f
abbrev eP(b:ab)(c:ab)(d:ab)(e:List be):List be:=a b 0 c::l d b::e
end Y
open Y
def Ow:bt:=(q [b p3 24 p0,f p6] (S (q (ld aZ 4 p3::c br 26 [jF]::no bJ br::m bN bJ::dE bR 2 p3 bN bO [G bL (.arith .eql 3 mG i0) bN false,o bK bN bL]) (H qj (q [c bT 10 [],m p6 bT] .ret) .skip)) (q (ld bY 4 p3::c ct 11 [qk]::c cz 21 [t28]::mZ ch cz b7 cW p7 p8 []) (q (ld cH 4 p3::c di 11 [rc]::c cD 18 [n8]::mZ cV cD bZ dl p9 aO []) (S (q (m dh p8::vm du dh::m dw du::d8 dg aO dw::G da (.arith .neq 3 pD i0) dw false::o dj dw da::m dq dj::d8 dA p7 dq::md dt dA dq::dE cJ 2 p3 dq dB (G dH (.arith .neq 3 t46 si) dq false::o dX dq dH::m dM dX::d8 dk p9 dM::md cR dk dM::dE dY 2 p3 dM dZ [G dR (.arith .neq 3 t53 yA) dM false,o eM dM dR])) (H u9 (q [f p6] .ret) .skip)) (q [m d9 p1,oq eI 3 d9,a eN 2 p3,l eg eN,O ep (.arith .rem 3 wH Az),m fy p2,oq fS 3 fy,a fg 2 p3,l eO fg,O gp (.arith .rem 3 yB Ck),m aR ep,m aY gp] (S (q (jH eJ p7 fJ aR fU gf [O fK (.arith .lss 3 vf i0),m eR fK,d8 fV p7 eR,d8 ff aY eR,so fL 1 fV ff eR,K3 fW fL eR,G ie (.arith .lss 3 AJ i0) eR false,o fM eR ie]) (H EC (q [c iq 10 [],m p6 iq] .ret) .skip)) (q [bS aX] (q [sj iB,m ir p7,K4 iC iB ir,m bi iC] (q (m iU bi::m jD aR::jH jk p7 kl aY jw lE [x mR 1 iU jD,s 1 mR lE]) (S (q [m l8 aR,a lh 1 p3,l jV lh,u kA l8 jV,m jW kA,K8 nQ p7 jW,K8 mS aY jW,sr li 1 nQ mS jW,pa mT li jW,K8 nR aR jW,G oV (.arith .neq 3 Oc Od) jW true,y oW jW oV] (H IG (r [k aX 12]) .skip)) (S (q [bS bk] (Bl 0 (Lp (S (q (m oX bk::jH lj p9 km aR mF mU [z lF mU,u pz oX lF]) (H Yb .skip (X 0))) (S (Bl 1 (q (jH oY p9 lG aR lH kP [m l9 bk,x nT 1 kP l9,l lI nT,m bo lI]) (q [m nU bo,O nV (.arith .lss 3 Oi i0),m lJ nV,d8 nW bo lJ,d8 pA p7 lJ,md qV pA lJ,G nX (.arith .geq 3 IL IM) lJ false,o kB lJ nX] (H Ol (q [f p6] .ret) (q (jH qW p7 qf bo oZ qh (jH pB p7 tA aY qX mV [O sc (.arith .eql 3 EI Oo)])) (H Oq (r [k aX 12]) .skip)))))) (r (ig lm bk nS []))))))) (q [ld uV 4 p3,c uW 11 [EJ],m nY bi,c wC 22 [Ot,IQ],m wD aX,O tC (.arith .eql 3 Yg Yh),m sd tC,G tD (.call (C (.func 10 [] [])) []) sd true,y wE sd tD,m p6 wE] .ret)))))))))))))
def Yz:aG:=.code 145 [.tmp p6] Ow
def YA:aG:=.code 131 [.tmp p2] (q [b p1 24 p0,f p2] (S (q (dD p7 3 p1 p8 p9 (O aO (.arith .gtr 3 t9 (I 3 30))::m aR aO::ey aY 3 p1 aR aX (ln bi aX aR::G bk (.arith .leq 3 jX (I 3 1500)) aR true::y bo aR bk::m aZ bo::dE br 3 p1 aZ bJ (md bN bJ aZ::og bR 3 bN 3000 aZ::o bO aZ bR::m bL bO::dE bK 2 p1 bL bT (og ch 3 bT 200 bL::d8 bY ch bL::ey ct 2 p1 bY cz (G b7 (.arith .leq 3 nZ (I 3 6000)) bY true::pE cW bY b7 bL::o cV bL cW::m cH cV::dE di 0 p1 cH cD [G bZ (.kH se) cH false,og dl 3 bZ 60 cH,o dh cH dl])))))) (H uX (q [kC p2] .ret) .skip)) (S (q [bS p3] (Bl 0 (Lp (S (q (m du p3::dD dw 3 p1 dg da [u dj du da]) (H uY .skip (X 0))) (S (Bl 1 (q (fN dt 3 p1 cJ dB p3 dH 7 [ld dX 7 dH,K1 p4,s 7 p4 dX]) (S (q (dD dM 0 p4 dk cR (O dY (.arith .gtr 3 t53 (I 3 12))::m dZ dY::dE dR 1 p4 dZ eM (md d9 eM dZ::og eI 3 d9 40 dZ::o eN dZ eI::m eg eN::K5 ep 2 p4 eg::dE fy 1 ep eg fS (md fg fS eg::og eO 3 fg 12 eg::o gp eg eO::m eJ gp::K5 fJ 2 p4 eJ::dE fU 3 fJ eJ gf (md fK gf eJ::og eR 3 fK 12 eJ::o fV eJ eR::m ff fV::K5 fL 2 p4 ff::dE fW 4 fL ff ie (md fM ie ff::og iq 3 fM 12 ff::o iB ff iq::m ir iB::K5 iC 2 p4 ir::dE iU 2 iC ir jD [G jk (.kH ED) ir false,og kl 3 jk 60 ir,o jw ir kl])))))) (H EE (q [kC p2] .ret) .skip)) (S (q [bS p5] (Bl 2 (Lp (S (q (m lE p5::dD mR 1 p4 l8 lh [u jV lE lh]) (H Oa .skip (X 2))) (S (Bl 3 (q (fN nQ 1 p4 mS li p5 mT 6 (dD nR 2 mT oV oW (O oX (.arith .gtr 3 IG (I 3 12))::m lj oX::dE km 1 p4 lj mF (d8 mU p5 lj::so lF 6 mF mU lj::dE pz 5 lF lj lm [G nS (.kH IJ) lj false,og oY 3 nS 250 lj,o lG lj oY])))) (H Of (q [kC p2] .ret) .skip))) (r (ig kA p5 jW []))))))) (q [bS p6] (Bl 4 (Lp (S (q (m lH p6::a kP 2 p4::dD l9 4 kP nT lI [u nU lH lI]) (H Oi .skip (X 4))) (S (Bl 5 (q (a nW 2 p4::fN pA 4 nW qV nX p6 kB 2 (dD qW 1 kB qf oZ [O qh (.arith .gtr 3 IN (I 3 12))])) (H EI (q [kC p2] .ret) .skip))) (r (ig nV p6 lJ []))))))))))) (r (ig dq p3 dA []))))))) (q [f p2] .ret))))
def YB:aG:=.code 26 [.cell p2 true 4] (q [b p1 24 p0,O p2 (.alloc 24 [(.str []),v0,v0,.aS])] (q [ld p5 4 p1,O p3 (.alloc 24 [(.str []),v0,v0,.aS]),s 4 p3 p5] (q [a p6 3 p3,N (.store 1 t6 cN)] (S (q [bS p4] (Bl 0 (Lp (S (q (m p7 p4::dD p8 3 p1 p9 aO [u aR p7 aO]) (H kD .skip (X 0))) (S (Bl 1 (r (a bi 3 p3::l bk bi::fN bo 3 p1 aZ br p4 bJ 7 [ld bN 7 bJ,R bR (.call (C (.func 33 [] [])) [kR]) [] [⟨bk,.aW jX,none⟩],O bO (.buildSlice 56 1 [.aS,.aS,(i 4 0),.aS,(.str []),.aS,.aS] [(0,7,qi)]),O bL (.append 56 144 7 [.aS,.aS,(i 4 0),.aS,(.str []),.aS,.aS] false ma mG),a bK 3 p3,s 1 bK bL]))) (r (ig aY p4 aX []))))))) (q [ld bT 4 p3,s 4 p2 bT] .ret)))))
def YC:aG:=.code 15 [.tmp p2] (q [b p1 24 p0,bS p2] (S (Bl 0 (q [ld p4 4 p1,c p5 39 [t4],no p6 p5,m p3 p6] (H t3 (q [k p2 5] .ret) (q [ld p8 4 p1,c p9 40 [t8],no aO p9,m p7 aO] (H t7 (q [k p2 4] .ret) (q [ld aY 4 p1,c aX 41 [kn],no bi aX,m aR bi] (H kD (q [k p2 9] .ret) .skip))))))) (q [bS p2] .ret)))
def YD:aG:=.code 8 [.tmp p2,.tmp p3] (q [b p1 24 p0,nl p2,bS p3] (q [ld p4 4 p1,c p5 51 [t4,(C (.func 52 [] []))],ex p6 p5 0,ex p7 p5 1,m p2 p6,m p3 p7] .ret))
def YE:aG:=.code 8 [.tmp p2,.tmp p3] (q [b p1 24 p0,nl p2,bS p3] (q [ld p4 4 p1,c p5 55 [t4,(C (.func 56 [] []))],ex p6 p5 0,ex p7 p5 1,m p2 p6,m p3 p7] .ret))
def YG:aG:=.code 18 [.tmp p4] (q [b p2 24 p0,bS p4] (q (ld p8 4 p2::c p9 34 [t8]::mZ p7 p9 aO aR p5 p6 []) (S (q [m aY p6,vm aX aY] (H kQ (q [m bi p6,m p4 bi] .ret) .skip)) (q [m bk p5,m bo p1,c aZ 57 [ma,jE],m p4 aZ] .ret))))
def YH:aG:=.code 26 [.tmp p4] (q [f p4] (S (q [m p6 p0,z p7 p6,m p8 p1,z p9 p8,tT aO p7 p9] (H fA (q [f p4] .ret) .skip)) (S (q [bS p5] (Bl 0 (Lp (S (q [m aR p5,m aY p0,z aX aY,u bi aR aX] (H jX .skip (X 0))) (S (Bl 1 (q (jH aZ p0 br p5 bJ bN (jH bR p1 bO p5 bL bK [tT bT bN bK])) (H tF (q [f p4] .ret) .skip))) (r (ig bk p5 bo []))))))) (q [kC p4] .ret))))
def YI:aG:=.code 11 [.tmp p2] (q [b p1 24 p0,f p2] (q [ld p3 4 p1,c p4 9 [t3],no p5 p4,m p6 p5,G p7 (.gw 4 t1) p6 true,Cp p8 13 p7 p6,wK p9 p8 p6,y aO p6 p9,m p2 aO] .ret))
def YJ:aG:=.code 63 [.tmp p2] (q [b p1 24 p0,nl p2] (q [ld p9 4 p1,c aO 42 [t9,(J 3 0)],O aR (.buildSlice 61 0 [.aS] []),Cm p3,s 3 p3 aO,m p4 aR] (S (q [bS p5] (Bl 0 (Lp (S (q (m aY p5::dD aX 3 p1 bi bk [u bo aY bk]) (H jE .skip (X 0))) (S (Bl 1 (q [ld bJ 4 p1,m bN p5,c bR 42 [mW,kR],O bO (.buildSlice 4 0 [(.bool false)] []),Cm p6,s 3 p6 bR,m p7 bO] (S (q [bS p8] (Bl 2 (Lp (S (q (m bL p8::dD bK 3 p1 bT ch [u bY bL ch]) (H qk .skip (X 2))) (S (Bl 3 (r (m b7 p7::fN cW 0 p3 cV cH p5 di 1 (l cD di::m bZ cD::ey dl 0 p3 bZ dh (K8 du p8 bZ::sr dw 1 dh du bZ::pa dg dw bZ::y da bZ dg::m dj da::K8 dq p5 dj::K8 dA p8 dj::G dt (.arith .eql 3 ql uZ) dj true::K8 cJ dt dj::dE dB 0 p6 cJ dH [d8 dX p8 cJ,so dM 1 dH dX cJ,K3 dk dM cJ,mc cR dk cJ,G dY (.pick tJ cT t53) dj true,y dZ dj dY,O dR (.buildSlice 4 1 [(.bool false)] [(0,1,yA)]),O eM (.append 4 1 1 [(.bool false)] false yt Ay),m p7 eM]))))) (r (ig ct p8 cz []))))))) (r [m d9 p4,m eI p7,O eN (.buildSlice 61 1 [.aS] [(0,1,wH)]),O eg (.append 61 24 1 [.aS] false rf vc),m p4 eg])))) (r (ig aZ p5 br []))))))) (q [m ep p4,m p2 ep] .ret))))
def YK:aG:=.code 47 [.tmp p2] (q [b p1 24 p0,nl p2] (q [a p8 2 p1,l p9 p8,O aO (.jL 3 8 1 [v0] t9 t9),m p3 aO] (S (q [bS p4] (Bl 0 (Lp (S (q [m aR p4,a aY 1 p1,l aX aY,u bi aR aX] (H jX .skip (X 0))) (S (Bl 1 (r [m aZ p3,m br p4,x bJ 1 aZ br,N (.store 1 mW (J 3 0))])) (r (ig bk p4 bo []))))))) (S (q [bS p5] (Bl 2 (Lp (S (q (m bN p5::dD bR 3 p1 bO bL [u bK bN bL]) (H qj .skip (X 2))) (S (Bl 3 (q (fN bY 3 p1 ct cz p5 b7 7 [ld cW 7 b7,c cV 59 [n6],m p6 cV]) (q [bS p7] (Bl 4 (Lp (S (q [m cH p7,m di p6,z cD di,u bZ cH cD] (H yu .skip (X 4))) (S (Bl 5 (r (m du p3::jH dw p6 dg p7 da dj [m dq p5,x dA 1 du dj,s 1 dA dq]))) (r (ig dl p7 dh []))))))))) (r (ig bT p5 ch []))))))) (q [m dt p3,m p2 dt] .ret)))))
def YL:aG:=.code 86 [.cell p2 true 7] (q [b p1 56 p0,K1 p2] (q [sj p7,a p8 0 p1,R p9 (.aW t8) [p7] [],a aR 2 p1,R aY (.gw 5 kD) [p7] [],K1 p3,R aO (.append 3 8 1 [v0] false t7 t9) [p3] [⟨aY,.gw 5 kD,none⟩],O aX (.build [.aS,.aS,(i 4 0),.aS,(.str []),.aS,.aS] [(0,1,fA),(2,5,kn)]),s 7 p3 aX] (S (q [bS p4] (Bl 0 (Lp (S (q (m bi p4::dD bk 1 p1 bo aZ [u br bi aZ]) (H jG .skip (X 0))) (S (Bl 1 (q (fN bR 1 p1 bO bL p4 bK 6 [ld bT 6 bK,AN p5,s 6 p5 bT]) (q [sj ch,a bY 2 p5,l ct bY,K4 cz ch ct,a b7 2 p5,s 1 b7 cz] (r [a cW 1 p3,l cV cW,ld cH 6 p5,O di (.buildSlice 58 1 [(i 4 0),v0,.aS,v0,v0,(.str [])] [(0,6,rc)]),O cD (.append 58 72 6 [(i 4 0),v0,.aS,v0,v0,(.str [])] false tG n8),a bZ 1 p3,s 1 bZ cD])))) (r (ig bJ p4 bN []))))))) (q [sj dl,a dh 2 p1,a du 1 dh,R dw (.aW sf) [dl] [],O da (.buildSlice 5 0 [(i 4 0)] []),a dj 2 p1,a dq 3 dj,R dA (.aW ql) [da,dl] [],R dg (.append 3 8 1 [v0] false n9 tH) [da] [⟨dA,.aW ql,none⟩],a cJ 2 p3,a dB 1 cJ,O dt (.append 5 1 1 [(i 4 0)] false Ax uZ),s 1 dB dg,a dH 2 p3,a dX 3 dH,s 1 dX dt,a dM 2 p3,a dk 4 dM,N (.store 1 yz cN)] (S (q [bS p6] (Bl 2 (Lp (S (q (m cR p6::a dY 2 p1::dD dZ 4 dY dR eM [u d9 cR eM]) (H rf .skip (X 2))) (S (Bl 3 (r (a eg 2 p3::a ep 4 eg::l fy ep::a fS 2 p1::fN fg 4 fS eO gp p6 eJ 2 (eP fJ eJ fU [sj gf,a fK 2 p1,a eR 4 fK,R fV (.aW AG) [gf] [],m ff p6,x fL 2 fV ff,a fW 1 fL,R ie (.aW AJ) [gf] [],R fM (.append 3 8 1 [v0] false vf AL) [] [⟨fU,.aW AF,none⟩,⟨eO,.aW Cj,none⟩,⟨fy,.aW AA,none⟩],Cn iq fU fM,O iB (.buildSlice 64 1 [v0,.aS] [(0,2,Cl)]),O ir (.append 64 32 2 [v0,.aS] false AB AM),a iC 2 p3,a iU 4 iC,s 1 iU ir])))) (r (ig eI p6 eN []))))))) (q [ld jD 7 p3,s 7 p2 jD] .ret))))))
def YM:aG:=.code 55 [.tmp p2,.tmp p3] (q [b p1 24 p0,yD p2,bS p3] (q (ld aY 4 p1::c aX 73 [kn]::mZ aR aX bi bk p4 p5 []) (S (q [m bo p5,vm aZ bo] (H jF (q [m br p5,yD p2,m p3 br] .ret) .skip)) (q (ld bJ 4 p1::m bN p4::dD bR 3 p1 bO bL [O bK (.jL 123 24 1 [.aS] mX mX),O bT (.build [(.str []),v0,v0,.aS,.aS,.aS,.aS] [(0,4,mW),(4,1,kR),(5,1,qj)]),b ch 78 bT,O p6 (.alloc 72 [.lS]),s 1 p6 ch]) (q [l ct p6,ld cz 4 p1,R b7 (.call (C (.func 74 [] [])) [nZ]) [] [⟨ct,.aW t6,none⟩],m bY b7,ex cW bY 0,ex cV bY 1,nc cH ct,a di 6 cH,s 1 di cW] (S (q [m cD p4,z bZ cD,bS dl] (Bl 0 (Lp (q [u dh dl bZ] (S (H uX .skip (X 0)) (S (Bl 1 (q [x du 1 cD dl,l dw du,m p8 dw] (q [l dg p6,m da p8,c dj 75 [pD,Ax]] (Bl 2 (.rangeFunc uY [dq,dA] (q [m p9 dq] (r [m aO dA])) (Bl 3 (r [l dt p6,nc cJ dt,a dB 5 cJ,l dH dB,m dX p9,m dM aO,x dk 1 dH dX,s 1 dk dM]))))))) (r (gu cR dl [])))))))) (q [l dY p6,m p2 dY,bS p3] .ret)))))))
def YO:aG:=.code 15 [.tmp p6] (q [f p6] (q [m p7 p2,m p8 p0,O p9 (.arith .geq 3 t7 t8),m aO p9,K8 aR p2 aO,K8 aY p1 aO,G aX (.arith .leq 3 kD kn) aO true,y bi aO aX,m p6 bi] .ret))
def YP:aG:=.code 81 [.tmp p4] (q [b p2 72 p0,nl p4] (q (l bi p2::nc bk bi::a bo 0 bk::fN aZ 3 bo br bJ p1 bN 7 [ld bR 7 bN,K1 p5,s 7 p5 bR]) (q [l bO p2,m bL p1,c bK 77 [mG,mX],oh p6 42,s 1 p6 bK] (q [O bT (.jK),R ch (.aW t6) [bT] [],a ct 2 p5,a cz 1 ct,R b7 (.aW nZ) [bT] [],O p7 (.alloc 82 [.cY]),R bY (.call (C (.func 78 [] [])) [tF,(J 3 0),o0]) [p7] [⟨b7,.aW nZ,none⟩],R cW (.call (C (.func 78 [] [])) [qk,(J 3 0),yt]) [p7] [],s 1 p7 cW] (S (q (a cV 2 p5::dD cH 4 cV di cD [bS bZ]) (Bl 0 (Lp (q [u dl bZ cD] (S (H n9 .skip (X 0)) (S (Bl 1 (q [x dh 2 di bZ,ld du 2 dh,wJ p9,s 2 p9 du] (r [l dw p7,a dg 1 p9,l da dg,c dj 78 [tH,(J 3 0),Ax],s 1 p7 dj]))) (r (gu dq bZ [])))))))) (S (q [l dA p2,m dt p1,c cJ 75 [uZ,t46]] (Bl 2 (.rangeFunc tJ [dB,dH] (r [m aO dB]) (Bl 3 (r (l dX p7::l dM p2::nc dk dM::fN cR 6 dk dY dZ aO dR 1 [l eM dR,c d9 78 [yw,(J 3 0),u9],s 1 p7 d9])))))) (q [l eI p7,O eN (.buildSlice 82 1 [.cY] [(0,1,wH)]),oh aR 79,s 1 aR eN] (S (q [a eg 1 p5,l ep eg,c fy 79 [AA]] (Bl 4 (.rangeFunc AB [fS,fg] (r [AN aX,s 6 aX fg]) (Bl 5 (q [l eO p7,a gp 1 aX,l eJ gp,a fJ 2 aX,l fU fJ,l fK p6,R gf (.call (C (.func 78 [] [])) [Ck,AD,tP]) [] [⟨fK,.aW t6,none⟩],c eR 78 [vf,(J 3 0),wI],s 1 p7 eR] (r [l fV aR,l ff p7,O fL (.buildSlice 82 1 [.cY] [(0,1,AI)]),O fW (.append 82 8 1 [.cY] false AH IC),s 1 aR fW])))))) (q [l ie aR,c fM 80 [AL]] (q [l iq aR,m p4 iq] .ret))))))))))
def YQ:aG:=.code 61 [.tmp p2] (q [b p1 24 p0,f p2] (q [bS p3] (S (q [bS p4] (Bl 0 (Lp (S (q (m p6 p4::dD p7 3 p1 p8 p9 [u aO p6 p9]) (H fA .skip (X 0))) (S (Bl 1 (q (m aX p3::fN bi 3 p1 bk bo p4 aZ 7 (dD br 1 aZ bJ bN [sq bR 3 aX bN,m p3 bR])) (q [bS p5] (Bl 2 (Lp (S (q (m bO p5::fN bL 3 p1 bK bT p4 ch 7 (a bY 2 ch::dD ct 4 bY cz b7 [u cW bO b7])) (H n6 .skip (X 2))) (S (Bl 3 (r (m di p3::fN cD 3 p1 bZ dl p4 dh 7 (a du 2 dh::fN dw 4 du dg da p5 dj 2 (dD dq 1 dj dA dt [sq cJ 3 di dt,m p3 cJ]))))) (r (ig cV p5 cH []))))))))) (r (ig aR p4 aY []))))))) (q (dD dB 3 p1 dH dX (O dM (.arith .leq 3 yw (I 3 1500))::m dk dM::ey cR 2 p1 dk dY [G dZ (.arith .leq 3 tL (I 3 6000)) dk true,y dR dk dZ,m eM dR,K8 d9 p3 eM,G eI (.arith .leq 3 rf (I 3 6000)) eM true,y eN eM eI,m p2 eN])) .ret))))
def YR:aG:=.code 144 [.tmp p2] (q [b p1 24 p0,f p2] (S (q (eP aR p1 aY (c aX 82 [kn]::no bi aX::m bk bi::dE bo 1 p1 bk aZ (dE br 2 p1 bk bJ (G bN (.call (C (.func 61 [] [])) [jF,i0,mW]) bk false::mc bR bN bk::o bO bk bR::m bL bO::dE bK 3 p1 bL bT (md ch bT bL::G bY (.arith .eql 3 o0 i0) bL false::o ct bL bY::m cz ct::dE b7 3 p1 cz cW (G cV (.dG 7 n6 i0) cz false::dE cH 0 cV cz di [md cD di cz,G bZ (.arith .gtr 3 se i0) cz false,o dl cz bZ])))))) (H n9 (q [f p2] .ret) .skip)) (q [a dh 2 p1,l du dh,Co dw du,m p3 dw] (S (q [bS p4] (Bl 0 (Lp (S (q [m dg p4,a da 1 p1,l dj da,u dq dg dj] (H ql .skip (X 0))) (S (Bl 1 (r [m cJ p3,m dB p4,x dH 1 cJ dB,rh dH])) (r (ig dA p4 dt []))))))) (S (q [bS p5] (Bl 2 (Lp (S (q (m dX p5::dD dM 3 p1 dk cR [u dY dX cR]) (H tL .skip (X 2))) (S (Bl 3 (q (fN eM 3 p1 d9 eI p5 eN 7 [ld eg 7 eN,K1 p6,s 7 p6 eg]) (q (sj ep::eP fy p6 fS [K4 fg ep fS,m p7 fg]) (S (q [bS p8] (Bl 4 (Lp (S (q (m eO p8::dD gp 1 p6 eJ fJ [u fU eO fJ]) (H tP .skip (X 4))) (S (Bl 5 (S (q (fN eR 1 p6 fV ff p8 fL 6 [ld fW 6 fL,a ie 2 p1,l fM ie,c iq 83 [AJ,EC],no iB iq]) (H AM (q [f p2] .ret) .skip)) (q (fN ir 1 p6 iC iU p8 jD 6 [a jk 1 jD,l kl jk,qq jw kl]) (H EE (r (m lE p7::fN mR 1 p6 l8 lh p8 jV 6 [a kA 1 jV,l jW kA,qp nQ jW,K4 mS lE nQ,m p7 mS])) .skip)))) (r (ig gf p8 fK []))))))) (S (q [bS p9] (Bl 6 (Lp (S (q [m li p9,m mT p7,z nR mT,u oV li nR] (H EH .skip (X 6))) (S (Bl 7 (S (q (jH lj p7 km p9 mF mU [a lF 2 p1,l pz lF,K6 lm pz,c nS 61 [X',i0,IJ],no oY nS,m lG oY,d8 lH p3 lG,d8 kP p7 lG,d8 l9 p9 lG,so nT 1 kP l9 lG,K3 lI nT lG,so nU 1 lH lI lG,K3 nV nU lG,o lJ lG nV]) (H Oj (q [f p2] .ret) .skip)) (r (m nW p3::jH pA p7 qV p9 nX kB [x qW 1 nW kB,rh qW])))) (r (ig oW p9 oX []))))))) (q [ld qf 4 p1,a oZ 2 p6,ld qh 5 oZ,c pB 84 [On,EI],no tA pB] (H IP (q [f p2] .ret) .skip))))))) (r (ig dZ p5 dR []))))))) (S (q [bS aO] (Bl 8 (Lp (S (q [m qX aO,a mV 2 p1,l sc mV,u uV qX sc] (H EJ .skip (X 8))) (S (Bl 9 (q (jH wC p3 wD aO tC sd [no tD sd]) (H Yj (q [f p2] .ret) .skip))) (r (ig uW aO nY []))))))) (q [kC p2] .ret)))))))
def YS:aG:=.code 181 [.tmp p2] (q [b p1 24 p0,f p2] (q [ld bi 4 p1,c bk 42 [jX,(J 3 0)],Cm p3,s 3 p3 bk] (S (q [a bo 2 p3,l aZ bo] (H jF (q [f p2] .ret) .skip)) (q [ld br 4 p1,ld bN 4 p1,R bJ (.call (C (.func 28 [] [])) [jG]) [] [⟨bN,.gw 4 t1,none⟩],c bR 29 [kR],m p4 bJ,m p5 bR] (S (q [bS p6] (Bl 0 (Lp (S (q (m bO p6::dD bL 3 p1 bK bT [u ch bO bT]) (H o0 .skip (X 0))) (S (Bl 1 (S (q (fN cz 0 p3 b7 cW p6 cV 1 [l cH cV,no di cH]) (H n8 (X 1) .skip)) (q (fN cD 3 p1 bZ dl p6 dh 7 [ld du 7 dh,a dw 1 p3,l dg dw,m da p6,x dj 1 dg da,l dq dj,K1 p7,M (.store 7 t7 sf) [] [⟨dq,.aW uY,none⟩,⟨dg,.aW tH,none⟩],m p8 dq]) (S (q (a dA 2 p7::eP dt dA cJ (cK dB 4 cJ 68 dH (K8 dX p8 dH::ln dM dX dH::wK dk dM dH::K8 cR dk dH::K5 dY 2 p7 cR::dE dZ 1 dY cR dR (md eM dR cR::dE d9 3 p1 cR eI (dE eN 3 p1 cR eg (d8 ep p8 cR::d8 fy p8 cR::md fS fy cR::G fg (.arith .sub 3 yB i1) cR false::so eO 1 ep fg cR::K3 gp eO cR::G eJ (.arith .quo 3 AC i2) cR false::so fJ 7 eg eJ cR::K5 fU 2 fJ cR::dE gf 4 fU cR fK (G eR (.dG 2 wI i2) cR false::dE fV 0 eR cR ff (so fL 7 eI ff cR::dE fW 0 fL cR ie (md fM ie cR::G iq (.arith .neq 3 u9 EC) cR false::G iB (.pick t53 cT Cl) dH true::y ir dH iB::m iC ir::K5 iU 2 p7 iC::dE jD 0 iU iC jk [vj kl 4 jk 69 iC,d8 jw kl iC,K8 lE p8 jw,ln mR lE jw,G l8 (.arith .gtr 3 EF i0) jw true,pE lh jw l8 iC,o jV iC lh]))))))))) (H Oa (q [f p2] .ret) .skip)) (q (sj kA::eP jW p7 nQ [K4 mS kA nQ,m p9 mS]) (q [bS aO] (Bl 2 (Lp (S (q (m li aO::dD mT 1 p7 nR oV [O oW (.arith .leq 3 X8 EH)]) (H IG .skip (X 2))) (S (Bl 3 (q [a km 2 p7,ld mF 5 km,c mU 45 [X9],m aR mU] (S (q (m lF aO::dD pz 1 p7 lm nS [u oY lF nS]) (H Oe (r (fN lG 1 p7 lH kP aO l9 6 [a nT 2 l9,l lI nT,m aR lI])) .skip)) (S (q [bS aY] (Bl 4 (Lp (S (q [m nU aY,m nV aR,z lJ nV,u nW nU lJ] (H IL .skip (X 4))) (S (Bl 5 (q (m nX p5::jH kB aR qW aY qf oZ [x qh 1 nX oZ,l pB qh,m aX pB]) (q [m tA aX,qq qX tA,m mV qX,K8 sc aX mV,K8 uV p6 mV,G uW (.arith .neq 3 Oq EJ) mV true,K8 nY uW mV,K8 wC p4 nY,K8 wD aX nY,sr tC 1 wC wD nY,pa sd tC nY,K8 tD p6 nY,sr wE 1 sd tD nY,pa tE wE nY,G Aq (.pick IQ Yk cF) mV true,sn yl Aq mV,y Cc mV yl,m pC Cc,K8 yn p9 pC,K8 yo aR pC,K8 Ar aY pC,sr As 1 yo Ar pC,pa yp As pC,Cr Au 60 yn yp pC,sn Av Au pC,y Aw pC Av] (H Ym (q [f p2] .ret) .skip)))) (r (ig pA aY qV []))))))) (q (m Cd aO::dD El 1 p7 Io Ip (u Ce Cd Ip::m wF Ce::ey wG 1 p7 wF Em (K8 Cf aO wF::sr En 6 Em Cf wF::ey Iq 1 En wF yq [G Eo (.arith .geq 3 Ou i0) wF true,y Ep wF Eo]))) (H Yp (r (m yr p9::fN Er 1 p7 Es Ir aO Et 6 [a Eu 1 Et,l qY Eu,qp Ev qY,K4 Cg yr Ev,m p9 Cg])) .skip)))))) (r (ig oX aO lj [])))))))))))) (r (ig bY p6 ct []))))))) (q [kC p2] .ret))))))
def YT:aG:=.code 95 [.cell p4 true 3] (q [b p2 24 p0,Cm p4] (q (dD aY 3 p2 aX bi [m p5 bi]) (q [m bk p5,Co bo bk,m aZ p5,O br (.jL 135 24 1 [.aS] jF jF),O bJ (.build [.aS,.aS,(.bool false)] [(0,1,jE),(1,1,jG)]),Cm p6,s 3 p6 bJ] (S (q [m bN p1,vm bR bN] (H qi (r (eP bO p6 bL [O bK (.dG 1 mX i0),rh bK])) .skip)) (S (q [kC p7] (Bl 0 (Lp (S (q [m bT p7] (H tF .skip (X 0))) (Bl 1 (q [f p7] (q [bS p8] (Bl 2 (Lp (S (q [m ch p8,m bY p5,u ct ch bY] (H t28 .skip (X 2))) (S (Bl 3 (q [O cW (.buildSlice 139 0 [v0,.aS] []),m p9 cW] (S (q (fN cV 0 p6 cH di p8 cD 1 [l bZ cD]) (H yu (r [ld dl 4 p2,m dh p8,a du 1 p6,l dw du,m dg p8,x da 1 dw dg,l dj da,c dq 85 [n9,uX,uY],m p9 dq]) .skip)) (q [bS aO] (Bl 4 (Lp (S (q [m dA aO,m dt p9,z cJ dt,u dB dA cJ] (H si .skip (X 4))) (S (Bl 5 (q (m dM p9::m dk aO::x cR 2 dM dk::eP dY cR dZ [m aR dZ]) (Bl 6 (q [m eM aR,m d9 p1,O eI (.arith .eql 3 u9 rf),m dR eI] (H Ay .skip (q (fN eg 0 p6 ep fy aR fS 1 [l fg fS,no eO fg,m eN eO]) (H vc (r (eP gp p6 eJ [m fJ aR,a fU 1 p6,l gf fU,m fK aR,m eR p9,m fV aO,x ff 2 eR fV,a fL 1 ff,l fW fL,x ie 1 eJ fJ,M (.store 1 AL cT) [] [⟨gf,.aW tP,none⟩],x fM 1 gf fK,s 1 fM fW,kC p7])) (q [a iB 1 p6,l ir iB,m iC aR,x iU 1 ir iC,l jD iU,m jk p9,m kl aO,x jw 2 jk kl,a lE 1 jw,l mR lE,c l8 23 [ED,EF],no lh l8,m iq lh] (H Cl (r [a jV 2 p6,rh jV]) .skip))))))))) (r (ig dH aO dX [])))))))))) (r (ig cz p8 b7 []))))))))))))) (q [ld kA 3 p6,s 3 p4 kA] .ret))))))
def YU:aG:=.code 25 [.tmp p2] (q [b p1 54 p0,nl p2] (q [sj p5,a p6 1 p1,l p7 p6,K4 p8 p5 p7,m p3 p8] (S (q [bS p4] (Bl 0 (Lp (S (q (m p9 p4::dD aO 4 p1 aR aY [u aX p9 aY]) (H kQ .skip (X 0))) (S (Bl 1 (r (m bo p3::fN aZ 4 p1 br bJ p4 bN 2 [a bR 1 bN,l bO bR,K4 bL bo bO,m p3 bL]))) (r (ig bi p4 bk []))))))) (q [m bK p3,m p2 bK] .ret))))
def YV:aG:=.code 4 [.tmp p2] (q [b p1 72 p0,tQ p2] (q [pb p3 88 p1,m p2 p3] .ret))
def YW:aG:=.code 19 [.tmp p4,.tmp p5] (q [b p2 24 p0,nl p4,bS p5] (q (ld p8 4 p2::c p9 34 [t8]::mZ p7 p9 aO aR p6 p5 []) (S (q [m aY p5,vm aX aY] (H kQ (q [m bi p4,m bk p5,m p4 bi,m p5 bk] .ret) .skip)) (q [m bo p1,m aZ p6,lL br bo aZ,m p4 br,bS p5] .ret))))
def YX:aG:=.code 19 [.tmp p2] (q [nl p2] (S (q [m p5 p0,c p6 53 [t5],z p7 p6,bS p8] (Bl 0 (Lp (q [u p9 p8 p7] (S (H t9 .skip (X 0)) (S (Bl 1 (q [x aO 1 p6 p8,l aR aO,m p4 aR] (r [m aY p2,m aX p4,c bi 38 [kQ],O bk (.buildSlice 42 1 [.aS] [(0,1,jX)]),O bo (.append 42 24 1 [.aS] false kn ma),m p2 bo]))) (r (gu aZ p8 [])))))))) (q [m br p2,m p2 br] .ret)))
def YY:aG:=.code 46 [.tmp p2] (q [nl p2] (q (m p7 p0::me p8 p7 p9 0 aO 2 aR [O aY (.jL 82 8 1 [.cY] kD kD),oh p3 79,s 1 p3 aY]) (S (q [m aX p0,c bi 50 [kQ]] (Bl 0 (.rangeFunc jX [bk] (r [m p4 bk]) (Bl 1 (.ez 1002))))) (q [l dA p3,m p2 dA] .ret))))
def YZ:aG:=.code 19 [.tmp p4,.tmp p5] (q [b p2 24 p0,nl p4,bS p5] (q (ld p8 4 p2::c p9 34 [t8]::mZ p7 p9 aO aR p6 p5 []) (S (q [m aY p5,vm aX aY] (H kQ (q [m bi p4,m bk p5,m p4 bi,m p5 bk] .ret) .skip)) (q [m bo p1,m aZ p6,lL br bo aZ,m p4 br,bS p5] .ret))))
def Y0:aG:=.code 57 [.tmp p2] (q [b p1 72 p0,nl p2] (q [l p9 p1,c aO 53 [t9],oh p3 79,s 1 p3 aO] (q (O aR (.buildSlice 3 1 [v0] [(0,1,(J 3 0))])::l aY p1::me aX aY bi 0 bk 2 bo [c aZ 91 [kD,jE],oh p4 42,s 1 p4 aZ]) (S (q [l br p1,c bJ 92 [jG]] (Bl 0 (.rangeFunc mW [bN] (r [m p5 bN]) (Bl 1 (S (q (m bR p5::l bO p1::me bL bO bK 0 bT 1 ch [u bY bR ch]) (H qk (q [l ct p4,m cz p5,m b7 p5,x cW 1 ct cz,s 1 cW b7] (X 1)) .skip)) (q [O cV (.jK),m p6 cV] (S (.ez 1003) (q [bS p8] (S (Bl 4 (Lp (S (q [m cJ p6,m dB p8,O dH (.lookup .int (.bool false) false tJ si)] (H u6 .skip (X 4))) (Bl 5 (r (ig dX p8 dM [])))))) (r [l dk p4,m cR p5,m dY p8,x dZ 1 dk cR,s 1 dZ dY])))))))))) (q [l dR p4,m p2 dR] .ret)))))
def Y1:aG:=.code 83 [.tmp p4] (q [b p3 42 p1,bS p4] (S (q (l aY p3::z aX aY::m bi p0::me bk bi bo 0 aZ 2 br [tT bJ aX br]) (H mW (q [k p4 2] .ret) .skip)) (q [O bN (.jK),O p5 (.alloc 82 [.cY]),s 1 p5 bN] (S (q [m bR p0,c bO 92 [qi]] (Bl 0 (.rangeFunc mG [bL] (r [m p6 bL]) (Bl 1 (r [l bK p5,m bT p6,N (.jy .int qj tF cT)]))))) (S (q [l ch p3,z bY ch,bS ct] (Bl 2 (Lp (q [u cz ct bY] (S (H nZ .skip (X 2)) (S (Bl 3 (q [m b7 ct,x cW 1 ch ct,l cV cW,m p7 b7,m p8 cV] (q [l cH p5,m di p7,O cD (.lookup .int (.bool false) false rc n8),m bZ cD,K8 dl p8 bZ,G dh (.call (C (.func 35 [] [])) [i0,(I 3 249),n9]) bZ true,sn du dh bZ,y dw bZ du,m dg dw,K3 da p5 dg,d8 dj p7 dg,G dq (.lookup .int (.bool false) false Ax uY) dg false,mc dA dq dg,d8 dt dA dg,K8 cJ p8 dt,G dB (.arith .neq 3 tJ (J 3 0)) dt true,pE dH dt dB dg,o dX dg dH] (H yw (q [k p4 3] .ret) .skip)))) (r (gu dM ct [])))))))) (S (q [m dk p0,c cR 53 [yz],z dY cR,bS dZ] (Bl 4 (Lp (q [u dR dZ dY] (S (H Ay .skip (X 4)) (S (Bl 5 (q [m eM dZ,x d9 1 cR dZ,l eI d9,O p9 (.alloc 3 [v0]),s 1 p9 eM,m aO eI] (q [O eN (.iP 93 [] [t3,t9]),m aR eN] (q (l eg p9::m ep p0::me fy ep fS 0 fg 1 eO [u gp eg eO,m eJ gp,pa fJ p3 eJ,pa fU p9 eJ,sr gf 1 fJ fU eJ,pa fK gf eJ,pa eR p9 eJ,G fV (.arith .neq 3 wI AG) eJ true,y ff eJ fV,m fL ff,d8 fW aO fL,d8 fM aR fL,G ie (.call (C (.func 38 [] [])) [AJ]) fL false,vh iq 68 ie fM fL,o iB fL iq]) (H AM (q [k p4 12] .ret) .skip))))) (r (gu ir dZ [])))))))) (q [bS p4] .ret)))))))
def Y2:aG:=.code 33 [.tmp p2] (q [b p1 56 p0,nl p2] (q (sj p5::eP p6 p1 p7 [K4 p8 p5 p7,m p3 p8]) (S (q [bS p4] (Bl 0 (Lp (S (q (m p9 p4::dD aO 1 p1 aR aY [u aX p9 aY]) (H kQ .skip (X 0))) (S (Bl 1 (q (fN bo 1 p1 aZ br p4 bJ 6 [a bN 1 bJ,l bR bN,qq bO bR]) (H mG (r (m bL p3::fN bK 1 p1 bT ch p4 bY 6 [a ct 1 bY,l cz ct,qp b7 cz,K4 cW bL b7,m p3 cW])) .skip))) (r (ig bi p4 bk []))))))) (q [m cV p3,m p2 cV] .ret))))
def Y3:aG:=.code 18 [.tmp p4] (q [f p4] (S (q [bS p5] (Bl 0 (Lp (S (q [m p6 p5,m p7 p0,z p8 p7,u p9 p6 p8] (H t9 .skip (X 0))) (S (Bl 1 (q (jH aY p0 aX p5 bi bk [m bo p1,O aZ (.arith .eql 3 ma jE)]) (H jF (q [kC p4] .ret) .skip))) (r (ig aO p5 aR []))))))) (q [f p4] .ret)))
def Y4:aG:=.code 15 [.tmp p6] (q [f p6] (q [m p7 p0,m p8 p1,O p9 (.arith .geq 3 t7 t8),m aO p9,K8 aR p0 aO,K8 aY p2 aO,G aX (.arith .leq 3 kD kn) aO true,y bi aO aX,m p6 bi] .ret))
def Y5:aG:=.code 9 [.tmp p4] (q [f p4] (q [m p5 p0,m p6 p1,c p7 96 [t5,t6],qq p8 p7,m p4 p8] .ret))
def Y6:aG:=.code 8 [.tmp p2,.tmp p3] (q [b p1 24 p0,nl p2,bS p3] (q [ld p4 4 p1,c p5 113 [t4,(C (.func 114 [] []))],ex p6 p5 0,ex p7 p5 1,m p2 p6,m p3 p7] .ret))
def Y7:aG:=.code 8 [.tmp p2,.tmp p3] (q [b p1 24 p0,nl p2,bS p3] (q [ld p4 4 p1,c p5 115 [t4,(C (.func 116 [] []))],ex p6 p5 0,ex p7 p5 1,m p2 p6,m p3 p7] .ret))
def Y8:aG:=.code 6 [.tmp p4] (q [b p2 72 p0,b p3 3 p1,tQ p4] (q [O p5 (.iP 117 [] [t2,t3]),m p4 p5] .ret))
def Y9:aG:=.code 39 [.cell p4 false 1] (q [b p2 72 p0,oh p4 42] (S (q (l p7 p2::nc p8 p7::fN p9 5 p8 aO aR p1 aY 1 [l aX aY,c bi 120 [kQ]]) (Bl 0 (.rangeFunc jX [bk,bo] (r [O p6 (.alloc 168 [v0,(.bool false)]),s 2 p6 bo]) (Bl 1 (q [a aZ 1 p6,l br aZ] (H jG (q (l bJ p2::nc bN bJ::a bR 6 bN::l bO bR::l bL p2::me bK bL bT 0 ch 3 bY (eP ct p6 cz (x b7 7 bY cz::a cW 2 b7::a cV 4 cW::l cH cV::O di (.dG 2 rc i1)::eP cD di bZ [x dl 1 bO bZ,l dh dl,s 1 p4 dh]))) .ret) .skip)))))) (q [N (.store 1 t4 cN)] .ret)))
def Y':aG:=.code 27 [.tmp p6] (q [O p6 (.bg (C .cY))] (q [m aO p0,c aR 121 [fA],m p7 aR] (S (q [m aY p7,O aX (.eq false .map kn (C .cY))] (H kQ (r [O bi (.jK),m p7 bi]) .skip)) (q [m bk p7,m bo p1,N (.delete .int ma jE)] (S (q [m aZ p2,z br aZ,bS bJ] (Bl 0 (Lp (q [u bN bJ br] (S (H kR .skip (X 0)) (S (Bl 1 (q [x bR 1 aZ bJ,l bO bR,m p9 bO] (r [m bL p7,m bK p9,N (.jy .int mX qj cT)]))) (r (gu bT bJ [])))))))) (q [m ch p7,m p6 ch] .ret))))))
def Za:aG:=.code 4 [.tmp p2] (q [b p1 50 p0,tQ p2] (q [pb p3 122 p1,m p2 p3] .ret))
def Zb:aG:=.code 28 [] (q [m p4 p0,z p5 p4,K6 p6 p5,bS p2,m p3 p6] (Bl 0 (Lp (S (q [m p7 p2,m p8 p3,u p9 p7 p8] (H t9 .skip (X 0))) (S (Bl 1 (r (m bi p0::m bk p2::m bo p0::m aZ p3::jH br p0 bJ p3 bN bR (jH bO p0 bL p2 bK bT [x ch 1 bi bk,s 1 ch bR,x bY 1 bo aZ,s 1 bY bT])))) (r [m aO p2,AO aR aO,m aY p3,K6 aX aY,m p2 aR,m p3 aX]))))))
def Zc:aG:=.code 25 [.tmp p2] (q [f p2] (S (q [bS p3] (Bl 0 (Lp (S (q [m p4 p3,m p5 p0,O p6 (.kH t5),u p7 p4 p6] (H t7 .skip (X 0))) (S (Bl 1 (q [m aO p0,m aR p3,O aY (.nu fA kD),oq aX 3 aY,c bi 61 [kQ,(I 3 33),(I 3 126)],no bk bi,m bo bk,d8 aZ p0 bo,d8 br p3 bo,G bJ (.nu jF jG) bo false,vj bN 4 bJ 34 bo,o bR bo bN] (H qi (q [f p2] .ret) .skip))) (r (ig p8 p3 p9 []))))))) (q [m bO p0,O bL (.kH mG),c bK 61 [mX,i1,(I 3 40)],m p2 bK] .ret)))
def Zd:aG:=.code 139 [.tmp p4] (q [b p2 58 p0,f p4] (S (q (eP p7 p2 p8 [c p9 124 [t8],no aO p9]) (H fA (q [f p4] .ret) .skip)) (q (eP aR p2 aY [a aX 4 p2,l bi aX,c bk 125 [kn,jX],EL p5,s 8 p5 bk]) (S (q (a bo 1 p5::l aZ bo::a br 1 p2::l bJ br::qq bN bJ::O bR (.eq true .bool jF kR)::m bO bR::dE bL 1 p2 bO bK (G bT (.arith .lss 3 qj (J 3 0)) bO false::o ch bO bT::m bY ch::dE ct 1 p2 bY cz (d8 b7 p1 bY::G cW (.arith .geq 3 nZ yt) bY false::o cV bY cW::m cH cV::dE di 2 p2 cH cD [d8 bZ p1 cH,vh dl 126 cD bZ cH,mc dh dl cH,o du cH dh]))) (H sf (q [f p4] .ret) .skip)) (S (q (a dw 3 p5::l dg dw::m da dg::ey dj 3 p2 da dq (ey dA 4 p5 da dt (ey cJ 5 p5 da dB (yC dH 61 dq dt dB da::sn dX dH da::y dM da dX::m dk dM::dE cR 3 p5 dk dY (mc dZ dY dk::d8 dR dZ dk::ey eM 3 p2 dR d9 (G eI (.arith .neq 3 rf i0) dR true::pE eN dR eI dk::o eg dk eN::m ep eg::dE fy 4 p2 ep fS (G fg (.arith .neq 3 yB i0) ep false::d8 eO fg ep::ey gp 0 p2 eO eJ (G fJ (.arith .eql 4 AD (I 4 13)) eO true::K8 fU fJ eO::ey gf 4 p2 fU fK [G eR (.arith .eql 3 wI i1) fU true,G fV (.pick tP AG cF) eO true,sn ff fV eO,pE fL eO ff ep,o fW ep fL])))))))) (H AJ (q [f p4] .ret) .skip)) (q [a ie 2 p5,l fM ie,m p6 fM] (S (q [a iq 6 p5,l iB iq] (Bl 0 (q [e kl iB 0,m jk kl] (H IE (q [a jw 5 p2,l lE jw,O mR (.iE .neq N8 (C (.str [])))] (H EF (q [f p4] .ret) .skip)) (q [e lh iB 1,m l8 lh] (H EG (q [a jV 5 p2,l kA jV,c jW 127 [XY],no nQ jW] (H IF (q [f p4] .ret) .skip)) (q [e li iB 3,m mS li] (H XZ (q [a mT 5 p2,l nR mT,c oV 128 [Od],m p6 oV] (q [m oW p6,e oX oW 0] (H IH (q [f p4] .ret) .skip))) (q [a ir 5 p2,l iC ir,c iU 82 [N7],no jD iU] (H ED (q [f p4] .ret) .skip)))))))))) (S (Bl 1 (q (eP km p2 mF (cK mU 4 mF 15 lF (dE pz 0 p2 lF lm [vj nS 4 lm 18 lF,o oY lF nS,m lj oY]))) (H II (q (dD lG 2 p2 lH kP [O l9 (.arith .leq 3 Og i6),m p4 l9]) .ret) (q [m lI p6,O nU (.arith .eql 3 Yd (J 3 0)),m nT nU] (H Yc (q [kC p4] .ret) (q [m lJ p6,O nW (.arith .eql 3 Oj (J 3 1)),m nV nW] (H Ye (q (dD pA 2 p2 qV nX [c kB 61 [Yf,i1,i7],m p4 kB]) .ret) (q [m qf p6,O oZ (.arith .eql 3 On (J 3 2)),m qW oZ] (H Om (q (dD qh 2 p2 pB tA [O qX (.arith .leq 3 IP i6),m p4 qX]) .ret) .skip))))))))) (q (dD mV 2 p2 sc uV [m uW p6,O nY (.arith .eql 3 EJ Ot),m p4 nY]) .ret)))))))))
def Ze:aG:=.code 199 [.tmp p4] (q [b p2 24 p0,b p3 54 p1,f p4] (q [bS p5,bS p6] (S (q (eP aY p3 aX []) (Bl 0 (q (cK bk 4 aX 61 bi []) (H jX (r [k p6 1]) (S (q (cK aZ 4 aX 62 bo []) (H jE .skip (q (cK br 4 aX 63 bo []) (H jE .skip (r (cK bJ 4 aX 65 bo [])))))) (H jE (r [k p5 1,k p6 2]) (q (cK bR 4 aX 66 bN []) (H kR (q (dD bO 3 p3 bL bK [m p6 bK]) (S (q [bS p7] (Bl 1 (Lp (S (q (m bT p7::dD ch 3 p3 bY ct [u cz bT ct]) (H nZ .skip (X 1))) (S (Bl 2 (q (fN cV 3 p3 cH di p7 cD 1 [l bZ cD,m p8 bZ]) (S (q (m dl p8::oq dh 3 dl::c du 61 [uX,i1,i3]::no dw du::m dg dw::d8 da p8 dg::vj dj 4 da 3 dg::d8 dq dj dg::K8 dA p7 dq::ey dt 3 p3 dq cJ [ln dB cJ dq,G dH (.arith .sub 3 si i1) dq true,G dX (.arith .lss 3 uZ u6) dq true,pE dM dq dX dg,o dk dg dM]) (H yz (q [f p4] .ret) .skip)) (r [m cR p5,m dY p8,O dZ (.arith .sub 4 (I 4 3) tL),oq dR 3 dZ,sq eM 3 cR dR,m p5 eM])))) (r (ig b7 p7 cW []))))))) (q [m d9 p6,c eI 61 [rf,i1,i4],no eN eI] (H vc (q [f p4] .ret) .skip)))) (q (cK ep 4 aX 67 eg []) (H Az (r [k p6 3]) (q (cK fS 4 aX 68 fy []) (H AB (r (dD fg 1 p3 eO gp [O eJ (.qD true [i1,AC]),m p5 eJ])) (S (q (cK fU 4 aX 69 fJ []) (H AF .skip (r (cK gf 4 aX 21 fJ [])))) (H AF (r [k p5 1]) (q (cK eR 4 aX 70 fK []) (H wI .skip (q [f p4] .ret))))))))))))))))) (S (q (dD fV 1 p3 ff fL (m fW p5::tT ie fL fW::m fM ie::dE iq 4 p3 fM iB (md ir iB fM::d8 iC p6 fM::G iU (.arith .neq 3 ID N7) fM false::o jD fM iU::m jk jD::dE kl 1 p3 jk jw (dE lE 2 p2 jk mR (vh l8 126 jw mR jk::mc lh l8 jk::o jV jk lh::m kA jV::dE jW 0 p3 kA nQ (G mS (.arith .neq 4 IF (I 4 66)) kA false::d8 li mS kA::ey mT 3 p3 li nR (ln oV nR li::G oW (.arith .gtr 3 EH i0) li true::pE oX li oW kA::o lj kA oX::m km lj::dE mF 0 p3 km mU (vj lF 4 mU 63 km::dE pz 2 p3 km lm (G nS (.iE .neq IJ (C (.str []))) km false::G oY (.eq true .bool Ya IK) km false::o lG km oY::m lH lG::dE kP 2 p3 lH l9 (G nT (.iE .neq Oh (C (.str []))) lH false::d8 lI nT lH::ey nU 2 p3 lI nV [Cp lJ 82 nV lI,sn nW lJ lI,pE pA lI nW lH,o qV lH pA])))))))))) (H IM (q [f p4] .ret) .skip)) (S (q [bS p9] (Bl 3 (Lp (S (q (m nX p9::dD kB 4 p3 qW qf [u oZ nX qf]) (H IN .skip (X 3))) (S (Bl 4 (q (fN tA 4 p3 qX mV p9 sc 2 [ld uV 2 sc,wJ aO,s 2 aO uV]) (S (q (eP uW aO nY (dD wC 3 p2 wD tC (K6 sd tC::c tD 61 [IQ,i1,Yi]::no wE tD::m tE wE::dE Aq 1 aO tE yl (dE Cc 2 p2 tE pC [vh yn 126 yl pC tE,mc yo yn tE,o Ar tE yo])))) (H Yl (q [f p4] .ret) .skip)) (q (a As 3 p2::l yp As::eP Au aO Av (x Aw 7 yp Av::dD Cd 0 Aw El Io [m aR Io])) (q (eP Ip p3 Ce (cK wF 4 Ce 67 wG (ey Em 1 aO wG Cf (ln En Cf wG::G Iq (.arith .gtr 3 Yn i0) wG true::K8 yq Iq wG::d8 Eo p9 yq::G Ep (.arith .eql 3 Yo i2) yq false::d8 yr Ep yq::K8 Er aR yr::wK Es Er yr::pE Ir yr Es yq::G Et (.pick Ou cT Yq) wG true::y Eu wG Et::m qY Eu::dE Ev 0 p3 qY Cg (vj NH 4 Cg 67 qY::d8 Ci NH qY::K8 NI p9 Ci::G Is (.arith .eql 3 t183 i2) Ci true::pE It Ci Is qY::mc NJ It qY::d8 qZ NJ qY::K8 NK aR qZ::ey NL 1 aO qZ Ew [ln NM Ew qZ,G NN (.gw 5 t3) qZ true,K8 NO p9 qZ,G' (some NP) (.call (C (.func 129 [] [])) [Yu,Yv]) qZ true [] [⟨Ew,.aW Ys,some (qZ,true)⟩],G NQ (.arith .add 3 Yt Yw) qZ true,G Iu (.arith .neq 3 Yr Yx) qZ true,pE NR qZ Iu qY,o NS qY NR]))))) (H Yy (q [f p4] .ret) .skip)))))) (r (ig qh p9 pB []))))))) (q [kC p4] .ret))))))
def Zf:aG:=.code 107 [.tmp p6] (q [b p3 24 p0,nl p6] (q (fN aX 3 p3 bi bk p1 bo 7 [a aZ 2 bo,ld br 5 aZ,O bJ (.buildSlice 139 0 [v0,.aS] []),IS p7,s 5 p7 br,m p8 bJ]) (S (q (eP bN p7 bR []) (Bl 0 (q (cK bL 4 bR 67 bO []) (H mG (q [sj bK,m bT p2,K4 ch bK bT,m bY p1,O ct (.arith .mul 3 i2 qk),qp cz ct,K4 b7 ch cz,m p9 b7] (q [sj cW,m cV p2,K4 cH cW cV,m di p1,O cD (.arith .mul 3 i2 n8),AO bZ cD,qp dl bZ,K4 dh cH dl,m aO dh] (q (m du p8::a dw 4 p7::l dg dw::O da (.dG 2 pD i0)::eP dj da dq (m dA p9::Cn dt dq dA::a cJ 4 p7::l dB cJ::O dH (.dG 2 si i1)::eP dX dH dM [m dk aO,Cn cR dM dk,O dY (.buildSlice 139 2 [v0,.aS] [(0,2,t46),(2,2,t53)]),O dZ (.append 139 32 2 [v0,.aS] false sf tL),m p6 dZ])) .ret))) (q (cK eM 4 bR 68 dR []) (H Ay (S (q [m d9 p2,z eI d9,e eN eI 0] (H vc (q [m eg p8,m p6 eg] .ret) .skip)) (q [m ep p2,m fy p2,z fS fy,K6 fg fS,x eO 1 ep fg,l gp eO,m aR gp] (q (m eJ p8::a fJ 3 p3::l fU fJ::m gf aR::O fK (.arith .quo 3 vf i2)::x eR 7 fU fK::a fV 2 eR::a ff 4 fV::l fL ff::O fW (.dG 2 IC i2)::eP ie fW fM [m iq p2,m iB p2,z ir iB,K6 iC ir,AP iU 3 1 iq iC,Cn jD fM iU,O jk (.buildSlice 139 1 [v0,.aS] [(0,2,ED)]),O kl (.append 139 32 2 [v0,.aS] false AD IE),m p6 kl]) .ret))) .skip)))))) (S (q [bS aY] (Bl 1 (Lp (S (q (m jw aY::dD lE 4 p7 mR l8 [u lh jw l8]) (H N9 .skip (X 1))) (S (Bl 2 (r (m jW p8::fN nQ 4 p7 mS li aY mT 2 (eP nR mT oV [m oW p2,Cn oX oV oW,O lj (.buildSlice 139 1 [v0,.aS] [(0,2,IH)]),O km (.append 139 32 2 [v0,.aS] false Ob II),m p8 km])))) (r (ig jV aY kA []))))))) (q [m mF p8,m p6 mF] .ret)))))
def Zg:aG:=.code 90 [] (q (l aR p1::nc aY aR::dD aX 4 aY bi bk [bS bo]) (Bl 0 (Lp (q [u aZ bo bk] (S (H jF .skip (X 0)) (S (Bl 1 (q [x br 1 bi bo,l bJ br,m p4 bJ] (q (l bN p1::nc bR bN::a bO 0 bR::fN bL 3 bO bK bT p4 ch 7 [ld bY 7 ch,K1 p5,s 7 p5 bY]) (q [l ct p1,m cz p4,c b7 37 [t28,nZ],m p6 b7] (q (eP cW p5 cV [m p7 cV]) (S (q [m cH p4,e di cH 0] (H n8 (r [l cD p1,c bZ 89 [se],m p7 bZ]) .skip)) (S (q [m dl p0,m dh p6,O du (.dG 1 uX i0),l dw du,m dg p7,c da 78 [tH,(J 3 0),pD],lL dj dl da,no dq dj] (H ql .ret .skip)) (S (q (dD dA 1 p5 dt cJ [bS dB]) (Bl 2 (Lp (q [u dH dB cJ] (S (H u6 .skip (X 2)) (S (Bl 3 (q [m dX dB,x dM 6 dt dB,ld dk 6 dM,AN p9,m p8 dX,s 6 p9 dk] (q [m cR p6,m dY p8,AO dZ dY,x dR 1 cR dZ,l eM dR,m aO eM] (S (q [a d9 1 p9,l eI d9,O eN (.arith .neq 3 wH (J 3 0))] (H vc (r [m eg aO,a ep 1 p9,l fy ep,qp fS fy,c fg 78 [Az,(J 3 0),yB],m aO fg]) .skip)) (q (m eO p0::jH gp p6 eJ p8 fJ fU [lL gf eO fU,no fK gf,m eR fK,d8 fV p0 eR,d8 ff aO eR,G fL (.call AH [AI]) eR false,mc fW fL eR,o ie eR fW]) (H AL .ret .skip)))))) (r (gu fM dB [])))))))) (q (m iq p0::m iB p6::dD ir 1 p5 iC iU [x jD 1 iB iU,l jk jD,lL kl iq jk,no jw kl]) (H EE .ret .skip)))))))))) (r (gu lE bo []))))))))
def Zh:aG:=.code 18 [.tmp p2] (q [nl p2] (S (q (m p4 p0::me p5 p4 p6 0 p7 1 p8 [bS p9]) (Bl 0 (Lp (q [u aO p9 p8] (S (H fA .skip (X 0)) (S (Bl 1 (q [m aR p9,m p3 aR] (r [m aY p2,m aX p3,qp bi aX,K4 bk aY bi,m p2 bk]))) (r (gu bo p9 [])))))))) (q [m aZ p2,m p2 aZ] .ret)))
def Zi:aG:=.code 48 [.tmp p4] (q [nl p4] (S (q [m p9 p1,O aO (.arith .lss 3 t9 i0)] (H fA (r [O aR (.lT 9 (C (.str [99,97,110,110,111,116,32,98,101,32,110,101,103,97,116,105,118,101]))),N (.pM)]) .skip)) (q (m aX p0::z bi aX::oq bk 7 bi::m bo p1::oq aZ 7 bo::c br 131 [ma,jF]::mZ aY br bJ bN p5 p6 []) (S (q [m bR p5,O bO (.arith .gtr 7 qi (I 7 0)),m bL bO,d8 bK p6 bL,og bT 7 bK 9223372036854775807 bL,o ch bL bT] (H o0 (r [O bY (.lT 9 (C (.str [116,104,101,32,114,101,115,117,108,116,32,111,102,32,40,108,101,110,40,120,41,32,42,32,99,111,117,110,116,41,32,111,118,101,114,102,108,111,119,115]))),N (.pM)]) .skip)) (q [m ct p6,oq cz 3 ct,O b7 (.jL 3 8 1 [v0] nZ nZ),m p7 b7] (q [m cW p7,m cV p0,O cH (.copy 1 n6 tG),m p8 cH] (S (Bl 0 (Lp (S (q [m di p8,m cD p7,z bZ cD,u dl di bZ] (H n9 .skip (X 0))) (Bl 1 (r [m dh p8,m du p7,m dw p8,O dg (.im 3 1 sf (some tH) none none),m da p7,m dj p8,AP dq 3 1 da dj,O dA (.copy 1 pD ql),sq dt 3 dh dA,m p8 dt]))))) (q [m cJ p7,m p4 cJ] .ret))))))))
def Zj:aG:=.code 4 [.tmp p2] (q [b p1 72 p0,tQ p2] (q [pb p3 132 p1,m p2 p3] .ret))
def Zk:aG:=.code 14 [.tmp p4] (q [f p4] (q [l p5 p1,l p6 p2,x p7 1 p5 p6,l p8 p7,l p9 p1,m aO p0,x aR 1 p9 aO,l aY aR,O aX (.arith .eql 3 t8 kn),m p4 aX] .ret))
def Zl:aG:=.code 19 [.tmp p4] (q [bS p4] (S (q [m p6 p0,z p7 p6,bS p8] (Bl 0 (Lp (q [u p9 p8 p7] (S (H t9 .skip (X 0)) (S (Bl 1 (q [m aO p8,m p5 aO] (q (m aR p1::jH aY p0 aX p5 bi bk [lL bo aR bk]) (H jE (q [m aZ p5,m p4 aZ] .ret) .skip)))) (r (gu br p8 [])))))))) (q [O p4 (.bg (J 3 0))] .ret)))
def Zm:aG:=.code 19 [.tmp p4,.tmp p5] (q [b p2 24 p0,nl p4,bS p5] (q (ld p8 4 p2::c p9 140 [t8]::mZ p7 p9 aO aR p6 p5 []) (S (q [m aY p5,vm aX aY] (H kQ (q [m bi p4,m bk p5,m p4 bi,m p5 bk] .ret) .skip)) (q [m bo p1,m aZ p6,lL br bo aZ,m p4 br,bS p5] .ret))))
def Zn:aG:=.code 19 [.tmp p2] (q [b p1 161 p0,nl p2] (q (l p6 p1::nc p7 p6::a p8 0 p7::dD p9 3 p8 aO aR [Co aY aR,oh p3 61,s 1 p3 aY]) (q [oh p4 42] (q [O p5 (.alloc 195 [.nilFunc])] (q [O aX (.iP 141 [] [t3,t1,t5,t4]),s 1 p5 aX] (q [l bi p5,O bk (.call jX [i0])] (q [l bo p4,c aZ 143 [jE]] (q [l br p4,m p2 br] .ret))))))))
def Zo:aG:=.code 19 [.tmp p4,.tmp p5] (q [b p2 24 p0,nl p4,bS p5] (q (ld p8 4 p2::c p9 140 [t8]::mZ p7 p9 aO aR p6 p5 []) (S (q [m aY p5,vm aX aY] (H kQ (q [m bi p4,m bk p5,m p4 bi,m p5 bk] .ret) .skip)) (q [m bo p1,m aZ p6,lL br bo aZ,m p4 br,bS p5] .ret))))
def Zp:aG:=.code 85 [.tmp p2] (q [b p1 161 p0,nl p2] (q (l bi p1::nc bk bi::a bo 0 bk::dD aZ 3 bo br bJ [O bN (.jL 197 8 1 [.cY] mW mW),oh p3 196,s 1 p3 bN]) (q [l bR p1,c bO 114 [qi],m p4 bO] (S (q [m bL p4,z bK bL,bS bT] (Bl 0 (Lp (q [u ch bT bK] (S (H o0 .skip (X 0)) (S (Bl 1 (q [x bY 1 bL bT,l ct bY,m p6 ct] (r [l cz p3,m b7 p6,O cW (.jK),x cV 1 cz b7,s 1 cV cW]))) (r (gu cH bT [])))))))) (S (q [Cq p7,rh p7] (Bl 2 (Lp (S (q [l di p7] (H n8 .skip (X 2))) (S (Bl 3 (q [N (.store 1 t7 cF)] (q [m cD p4,c bZ 144 [se]] (Bl 4 (.rangeFunc yu [dl,dh] (r [m p9 dh]) (Bl 5 (r [l du p1,m dw p9,l dg p3,c da 145 [sf,tH,pD],m dj da,K3 dq p7 dj,o dA dj dq,s 1 p7 dA]))))))) (q [l dt p7] (r [Cq p7,s 1 p7 dt]))))))) (q (l cJ p1::nc dB cJ::a dH 0 dB::dD dX 3 dH dM dk [O cR (.jL 42 24 1 [.aS] yz yz),m aO cR]) (S (q [l dY p3,z dZ dY,bS dR] (Bl 6 (Lp (q [u eM dR dZ] (S (H u9 .skip (X 6)) (S (Bl 7 (q [m d9 dR,x eI 1 dY dR,l eN eI,m aR d9,m aY eN] (q (l eg p1::me ep eg fy 0 fS 2 fg [bS eO]) (Bl 8 (Lp (q [u gp eO fg] (S (H AC .skip (X 8)) (S (Bl 9 (q [m eJ eO,m aX eJ] (q [m fJ aY,m fU aX,O gf (.lookup .int (.bool false) false AF tP)] (H vf (r (m fK aO::m eR aR::jH fV aO ff aR fL fW [m ie aX,qp fM ie,K4 iq fW fM,x iB 1 fK eR,s 1 iB iq])) .skip)))) (r (gu ir eO [])))))))))) (r (gu iC dR [])))))))) (q [m iU aO,m p2 iU] .ret))))))))
def Zq:aG:=.code 82 [] (q (l p9 p1::me aO p9 aR 0 aY 3 aX [l bi p2,x bk 7 aX bi,a bo 2 bk,ld aZ 5 bo,l br p1,nc bJ br,a bN 5 bJ,l bR bN,l bO p2,x bL 1 bR bO,l bK bL,IS p4,M (.store 5 t4 jF) [] [⟨bK,.aW mX,none⟩,⟨bO,.aW t2,none⟩,⟨bR,.aW kR,none⟩,⟨br,.aW t1,none⟩],m p5 bK]) (q (eP bT p4 ch []) (Bl 0 (q (cK da 4 ch 67 dg []) (H pD (q (m dj p0::a dq 4 p4::l dA dq::O dt (.dG 2 uZ i0)::eP cJ dt dB [m dH p5,l dM p2,O dk (.build [v0,(.bool false)] [(0,1,t51),(1,1,cT)]),O cR (.buildSlice 168 1 [v0,(.bool false)] [(0,2,yz)]),R dX (.call (C (.func 118 [] [])) [u6]) [cR] [⟨dM,.aW t2,none⟩,⟨dB,.aW tJ,none⟩,⟨dA,.aW ql,none⟩],R dY (.append 168 16 2 [v0,(.bool false)] false yw t53) [] [⟨dB,.aW tJ,none⟩,⟨dA,.aW ql,none⟩],mY dZ dj dB dY]) (H yA (r (m dR p0::a eM 4 p4::l d9 eM::O eI (.dG 2 rf i1)::eP eN eI eg [m ep p5,l fS p2,O fg (.build [v0,(.bool false)] [(0,1,yB),(1,1,cF)]),O eO (.buildSlice 168 1 [v0,(.bool false)] [(0,2,Cj)]),R fy (.call (C (.func 118 [] [])) [AA]) [eO] [⟨fS,.aW t2,none⟩,⟨eg,.aW vc,none⟩,⟨d9,.aW u9,none⟩],R gp (.append 168 16 2 [v0,(.bool false)] false AB Ck) [] [⟨eg,.aW vc,none⟩,⟨d9,.aW u9,none⟩],mY eJ dR eg gp])) .skip)) (q (cK fU 4 ch 68 fJ []) (H AF (q [m gf p5,z fK gf,K6 eR fK,m p6 eR] (r [m fV p0,l ff p1,l fL p2,m ie p5,m fM p6,AP iq 168 2 ie fM,c fW 119 [AI,IC],mY iB fV fW iq])) (q (dD bY 4 p4 ct cz [bS b7]) (Bl 1 (Lp (q [u cW b7 cz] (S (H n6 .skip (X 1)) (S (Bl 2 (q [x cV 2 ct b7,ld cH 2 cV,wJ p8,s 2 p8 cH] (q (m di p0::eP cD p8 bZ [m dl p5,mY dh di bZ dl,no du dh]) (H sf .ret .skip)))) (r (gu dw b7 [])))))))))))))))
def Zr:aG:=.code 9 [.tmp p2] (q [nl p2] (q [m p3 p0,m p4 p0,z p5 p4,m p6 p0,z p7 p6,O p8 (.im 168 2 t3 none (some t5) (some t7)),m p2 p8] .ret))
def Zs:aG:=.code 21 [.tmp p4] (q [bS p4] (q (m p5 p0::me p6 p5 p7 0 p8 3 p9 (m aO p0::m aR p1::R aY (.call (C (.func 146 [] [])) [fA,kD]) [] [⟨p9,.aW t8,none⟩]::O aX (.part false 0 1 kn)::x bi 7 p9 aX::a bk 2 bi::a bo 4 bk::l aZ bo::O br (.dG 2 jF i2)::eP bJ br bN [m p4 bN])) .ret))
def Zt:aG:=.code 4 [.tmp p2] (q [b p1 123 p0,tQ p2] (q [pb p3 147 p1,m p2 p3] .ret))
def Zu:aG:=.code 9 [.tmp p2] (q [O p2 (.bg (C .cY))] (S (q [m p3 p0,O p4 (.eq false .map t3 (C .cY))] (H t4 (q [O p2 (.bg (C .cY))] .ret) .skip)) (q [m p5 p0,O p6 (.lT 82 t5),c p7 148 [t6],O p8 (.typeAssert 82 .cY false t7),m p2 p8] .ret)))
def Zv:aG:=.code 19 [] (q [l p4 p1,z p5 p4,K6 p6 p5,m p3 p6] (Bl 0 (Lp (S (q [m p7 p3,qq p8 p7] (H t8 .skip (X 0))) (S (Bl 1 (q [m aR p0,m aY p3,l aX p1,m bi p3,x bk 6 aX bi,ld bo 6 bk,mY aZ aR aY bo,no br aZ] (H jG .ret .skip))) (r [m p9 p3,K6 aO p9,m p3 aO]))))))
def Zw:aG:=.code 20 [.tmp p2] (q [f p2] (S (q [m p3 p0] (Bl 0 (S (q (cK p5 4 p3 21 p4 []) (H t4 .skip (q (cK p6 4 p3 60 p4 []) (H t4 .skip (q (cK p7 4 p3 61 p4 []) (H t4 .skip (q (cK p8 4 p3 62 p4 []) (H t4 .skip (q (cK p9 4 p3 63 p4 []) (H t4 .skip (q (cK aO 4 p3 65 p4 []) (H t4 .skip (q (cK aR 4 p3 66 p4 []) (H t4 .skip (q (cK aY 4 p3 67 p4 []) (H t4 .skip (q (cK aX 4 p3 68 p4 []) (H t4 .skip (q (cK bi 4 p3 69 p4 []) (H t4 .skip (r (cK bk 4 p3 70 p4 [])))))))))))))))))))))) (H t4 (q [f p2] .ret) .skip)))) (q [m bo p0,c aZ 149 [jE],O br (.part false 0 1 jF),O bJ (.iE .neq jG (C (.str []))),m p2 bJ] .ret)))
def Zx:aG:=.code 14 [.cell p4 true 8] (q [EL p4] (S (q (m p5 p0::cK p6 4 p5 13 p7 [K8 p8 p1 p7,G p9 (.arith .eql 3 t8 i1) p7 true,y aO p7 p9]) (H fA (q [O aR (.build [(.str []),(.bool false),v0,(.bool false),v0,v0,v0,v0] [(0,1,(C (.str [102,114,101,101]))),(1,1,cT),(2,1,(J 3 2)),(3,1,cF),(4,1,i0),(5,1,i0),(6,1,i2),(7,1,i0)]),s 8 p4 aR] .ret) .skip)) (q [m aY p0,c aX 149 [kn],s 8 p4 aX] .ret)))
def Zy:aG:=.code 20 [.tmp p4] (q [f p4] (S (q [bS p5] (Bl 0 (Lp (S (q [m p6 p5,m p7 p0,z p8 p7,u p9 p6 p8] (H t9 .skip (X 0))) (S (Bl 1 (q (jH aY p0 aX p5 bi bk [m bo p1,K6 aZ bo,c br 61 [ma,i0,jF],no bJ br]) (H mW (q [f p4] .ret) .skip))) (r (ig aO p5 aR []))))))) (q [kC p4] .ret)))
def Zz:aG:=.code 25 [.tmp p2] (q [f p2] (S (q [bS p3] (Bl 0 (Lp (S (q [m p4 p3,m p5 p0,O p6 (.kH t5),u p7 p4 p6] (H t7 .skip (X 0))) (S (Bl 1 (q [m aO p0,m aR p3,O aY (.nu fA kD),oq aX 3 aY,c bi 61 [kQ,(I 3 32),(I 3 126)],no bk bi,m bo bk,K8 aZ p0 bo,K8 br p3 bo,G bJ (.nu jF jG) bo true,G bN (.arith .neq 4 mW (I 4 10)) bo true,y bR bo bN] (H qi (q [f p2] .ret) .skip))) (r (ig p8 p3 p9 []))))))) (q [m bO p0,O bL (.kH mG),O bK (.arith .leq 3 mX (I 3 200)),m p2 bK] .ret)))
def ZA:aG:=.code 24 [.tmp p2] (q [bS p2] (S (q [m p3 p0] (Bl 0 (S (q [K2 p5 p3 110 101 103,m p4 p5] (H t4 .skip (q [K2 p6 p3 110 111 116,m p4 p6] (H t4 .skip (q [K7 p7 p3 115 105 122 101,m p4 p7] (H t4 .skip (q [K7 p8 p3 115 104 111 119,m p4 p8] (H t4 .skip (r [K7 p9 p3 114 101 97 100,m p4 p9]))))))))) (H t4 (q [k p2 1] .ret) (S (q [O aR (.iE .eql t3 (C (.str [97,100,100]))),m aO aR] (H fA .skip (q [K2 aY p3 115 117 98,m aO aY] (H fA .skip (q [K2 aX p3 109 117 108,m aO aX] (H fA .skip (q [K2 bi p3 100 105 118,m aO bi] (H fA .skip (q [K2 bk p3 109 111 100,m aO bk] (H fA .skip (q [vi bo p3 108 116,m aO bo] (H fA .skip (q [vi aZ p3 108 101,m aO aZ] (H fA .skip (q [vi br p3 101 113,m aO br] (H fA .skip (q [K7 bJ p3 106 111 105 110,m aO bJ] (H fA .skip (q [K7 bN p3 98 121 116 101,m aO bN] (H fA .skip (r [K7 bR p3 115 97 109 101,m aO bR]))))))))))))))))))))) (H fA (q [k p2 2] .ret) (q [K2 bL p3 99 117 116,m bO bL] (H mG (q [k p2 3] .ret) .skip)))))))) (q [bS p2] .ret)))
def ZB:aG:=.code 38 [.tmp p4] (q [b p2 54 p0,bS p4] (S (Bl 0 (S (q (eP p6 p2 p7 (cK p8 4 p7 65 p9 [K8 aO p1 p9,wK aR aO p9,y aY p9 aR,m p5 aY])) (H t5 .skip (q (eP aX p2 bi (cK bk 4 bi 67 bo [K8 aZ p1 bo,G br (.arith .eql 3 jF i1) bo true,y bJ bo br,m p5 bJ])) (H t5 .skip (r (eP bN p2 bR (cK bO 4 bR 66 bL (K8 bK p1 bL::ey bT 3 p2 bL ch (ln bY ch bL::G ct (.arith .lss 3 qj qk) bL true::y cz bL ct::m b7 cz::ey cW 3 p2 b7 cV [K8 cH p1 b7,sr di 1 cV cH b7,pa cD di b7,G bZ (.arith .eql 4 se (I 4 2)) b7 true,y dl b7 bZ,m p5 dl]))))))))) (H t5 (q [k p4 1] .ret) .skip))) (q [bS p4] .ret)))
def ZC:aG:=.code 30 [.tmp p4,.tmp p5] (q [O p4 (.bg (I 7 0)),O p5 (.bg (I 7 0))] (S (H cF (q (m aR p0::oq aY 6 aR::m aX p1::oq bi 6 aX::c bk 150 [kn,jX]::mZ aO bk bo aZ p6 p7 []) (q [m br p6,oq bJ 7 br,m bN p7,oq bR 7 bN,m p4 bJ,m p5 bR] .ret)) .skip) (q (m bL p0::m bK p1::c bT 151 [mX,qj]::mZ bO bT ch bY p8 p9 []) (q [m ct p8,m cz p9,m p4 ct,m p5 cz] .ret))))
def ZD:aG:=.code 61 [] (q [b p2 109 p0] (q [pb p8 133 p2,m p3 p8] (S (q [m p9 p3,l aO p1,c aR 89 [fA],lL aY p9 aR,no aX aY] (H kQ .ret .skip)) (q (l bi p1::nc bk bi::dD bo 4 bk aZ br [bS bJ]) (Bl 0 (Lp (q [u bN bJ br] (S (H kR .skip (X 0)) (S (Bl 1 (q [x bR 1 aZ bJ,l bO bR,m p5 bO] (S (q (m bL p3::l bK p1::nc bT bK::a ch 0 bT::fN bY 3 ch ct cz p5 b7 7 (eP cW b7 cV [lL cH bL cV,no di cH])) (H n8 .ret .skip)) (q (l cD p1::nc bZ cD::a dl 0 bZ::fN dh 3 dl du dw p5 dg 7 (dD da 1 dg dj dq [bS dA])) (Bl 2 (Lp (q [u dt dA dq] (S (H t46 .skip (X 2)) (S (Bl 3 (q [x cJ 6 dj dA,ld dB 6 cJ,AN p7,s 6 p7 dB] (q (a dH 1 p7::l dX dH::O dM (.arith .neq 3 yw (J 3 0))::m dk dM::pa cR p2 dk::ey dY 1 p7 dk dZ [G dR (.call t53 [yA]) dk true,sn eM dR dk,y d9 dk eM]) (H rf .ret .skip)))) (r (gu eI dA []))))))))))) (r (gu eN bJ [])))))))))))
def ZE:aG:=.code 8 [.tmp p3] (q [f p3] (q [m p4 p0,pb p5 134 p1,c p6 68 [t4,t5],no p7 p6,m p3 p7] .ret))
def ZF:aG:=.code 8 [.tmp p3] (q [f p3] (q [l p4 p1,m p5 p0,lL p6 p4 p5,no p7 p6,m p3 p7] .ret))
def ZG:aG:=.code 18 [.tmp p2,.tmp p3] (q [b p1 24 p0,yD p2,bS p3] (S (Bl 0 (q [ld p6 4 p1,c p7 171 [t6],m p5 p7] (H t5 (q [yD p2,k p3 5] .ret) (q [ld p9 4 p1,c aO 172 [t9],no aR aO,m p8 aR] (H t8 (q [yD p2,k p3 4] .ret) .skip))))) (q [ld aY 4 p1,c aX 173 [kn],m p4 aX] (S (q [m bi p4,c bk 174 [jX],no bo bk] (H jE (q [yD p2,k p3 9] .ret) .skip)) (q [m aZ p4,m p2 aZ,bS p3] .ret)))))
def ZH:aG:=.code 31 [] (S (q [l p8 p1,m p9 p0,x aO 1 p8 p9,l aR aO] (H kD .ret .skip)) (q [l aY p1,m aX p0,x bi 1 aY aX,rh bi] (S (q [l bk p2,m bo p0,c aZ 142 [ma,jE],z br aZ,bS bJ] (Bl 0 (Lp (q [u bN bJ br] (S (H kR .skip (X 0)) (S (Bl 1 (q [x bR 1 aZ bJ,l bO bR,m p7 bO] (r [l bL p3,m bK p7,lL bT bL bK]))) (r (gu ch bJ [])))))))) (r [l bY p4,m ct p0,qp cz ct,K4 b7 bY cz,s 1 p4 b7]))))
def ZI:aG:=.code 16 [.cell p4 false 1] (q [oh p4 42] (S (q [m p6 p0,m p7 p1,c p8 175 [t6,t7]] (Bl 0 (.rangeFunc t8 [p9,aO] (r [m p5 p9]) (Bl 1 (r [l aR p4,m aY p5,qp aX aY,K4 bi aR aX,s 1 p4 bi]))))) (q [l bk p4,s 1 p4 bk] .ret)))
def ZJ:aG:=.code 28 [] (q [m p4 p0,z p5 p4,K6 p6 p5,bS p2,m p3 p6] (Bl 0 (Lp (S (q [m p7 p2,m p8 p3,u p9 p7 p8] (H t9 .skip (X 0))) (S (Bl 1 (r (m bi p0::m bk p2::m bo p0::m aZ p3::jH br p0 bJ p3 bN bR (jH bO p0 bL p2 bK bT [x ch 1 bi bk,s 1 ch bR,x bY 1 bo aZ,s 1 bY bT])))) (r [m aO p2,AO aR aO,m aY p3,K6 aX aY,m p2 aR,m p3 aX]))))))
def ZK:aG:=.code 4 [.tmp p2] (q [b p1 42 p0,tQ p2] (q [pb p3 176 p1,m p2 p3] .ret))
def ZL:aG:=.code 89 [.cell p6 false 1] (q [b p4 3 p1,b p5 196 p2,Cq p6] (q (m bN p0::me bR bN bO 0 bL 3 bK [l bT p4,x ch 7 bK bT,ld bY 7 ch,K1 p7,s 7 p7 bY]) (q [O ct (.jK),O p8 (.alloc 232 [.cY]),s 1 p8 ct] (S (q [ld cz 7 p7,c b7 177 [nZ]] (Bl 0 (.rangeFunc yt [cW,cV] (q [m p9 cW] (r [m aO cV])) (Bl 1 (r [l cH p8,m di p9,m cD aO,N (.jy .int rc n8 se)]))))) (q [O bZ (.iP 178 [] [t8,t5,t4,t6]),O aR (.alloc 234 [.nilFunc]),s 1 aR bZ] (S (q [ld dl 7 p7,c dh 180 [n9]] (Bl 2 (.rangeFunc uX [du,dw] (q [m aY du] (r [m aX dw])) (Bl 3 (r [l dg aR,m da aY,m dj aX,mY dq dg da dj]))))) (S (q [m dA p0,l dt p4,c cJ 142 [uZ,t46],z dB cJ,bS dH] (Bl 4 (Lp (q [u dX dH dB] (S (H yw .skip (X 4)) (S (Bl 5 (q [x dM 1 cJ dH,l dk dM,m bk dk] (.ez 1004))) (r (gu eJ dH [])))))))) (S (q (m fU p0::l gf p4::c fK 181 [tP,vf]::mZ fJ fK eR fV aZ br []) (q [m ff br] (H AI (.ez 1005) .skip))) (q [l jw p6,s 1 p6 jw] .ret)))))))))
def ZM:aG:=.code 23 [.cell p4 true 2] (q [O p4 (.alloc 168 [v0,(.bool false)])] (q (m p5 p0::nc p6 p5::fN p7 5 p6 p8 p9 p1 aO 1 (l aR aO::m aY p0::nc aX aY::fN bi 5 aX bk bo p1 aZ 1 [l br aZ,z bJ br,K6 bN bJ,x bR 2 aR bN,ld bO 2 bR,s 2 p4 bO])) .ret))
def ZN:aG:=.code 19 [] (q [l p4 p1,z p5 p4,K6 p6 p5,m p3 p6] (Bl 0 (Lp (S (q [m p7 p3,qq p8 p7] (H t8 .skip (X 0))) (S (Bl 1 (q [m aR p0,m aY p3,l aX p1,m bi p3,x bk 2 aX bi,ld bo 2 bk,mY aZ aR aY bo,no br aZ] (H jG .ret .skip))) (r [m p9 p3,K6 aO p9,m p3 aO]))))))
def ZO:aG:=.code 76 [.cell p2 true 8] (q [EL p2] (q [k p3 1000000000] (S (q [m p4 p0] (Bl 0 (q (cK p6 4 p4 1 p5 []) (H t5 (q [m p7 p3,O p8 (.unary .neg t7),m p9 p3,O aO (.build [(.str []),(.bool false),v0,(.bool false),v0,v0,v0,v0] [(0,1,(C (.str [105,110,116]))),(1,1,cT),(2,1,i0),(3,1,cT),(4,1,t8),(5,1,t9),(6,1,i0),(7,1,i0)]),s 8 p2 aO] .ret) (q (cK aY 4 p4 2 aR []) (H kD (q [O aX (.build [(.str []),(.bool false),v0,(.bool false),v0,v0,v0,v0] [(0,1,(C (.str [98,111,111,108]))),(1,1,cT),(2,1,i0),(3,1,cT),(4,1,i0),(5,1,i1),(6,1,i0),(7,1,i0)]),s 8 p2 aX] .ret) (q (cK bk 4 p4 3 bi []) (H jX (q [O bo (.build [(.str []),(.bool false),v0,(.bool false),v0,v0,v0,v0] [(0,1,(C (.str [116,101,120,116]))),(1,1,cT),(2,1,i0),(3,1,cF),(4,1,i0),(5,1,i0),(6,1,i1),(7,1,i0)]),s 8 p2 bo] .ret) (q [O br (.arith .eql 4 t4 (I 4 4)),m aZ br] (H jF (q [O bJ (.build [(.str []),(.bool false),v0,(.bool false),v0,v0,v0,v0] [(0,1,(C (.str [117,110,105,116]))),(1,1,cT),(2,1,i0),(3,1,cF),(4,1,i0),(5,1,i0),(6,1,i0),(7,1,i0)]),s 8 p2 bJ] .ret) (q (cK bR 4 p4 11 bN []) (H kR (q [O bO (.build [(.str []),(.bool false),v0,(.bool false),v0,v0,v0,v0] [(0,1,(C (.str [102,110]))),(1,1,cT),(2,1,i0),(3,1,cF),(4,1,i0),(5,1,i0),(6,1,i2),(7,1,i0)]),s 8 p2 bO] .ret) (q (cK bK 4 p4 40 bL []) (H mX (q [O bT (.build [(.str []),(.bool false),v0,(.bool false),v0,v0,v0,v0] [(0,1,(C (.str [99,108,111,115,101]))),(1,1,cT),(2,1,(J 3 0)),(3,1,cF),(4,1,i0),(5,1,i0),(6,1,i2),(7,1,i0)]),s 8 p2 bT] .ret) (q (cK bY 4 p4 14 ch []) (H o0 (q [O ct (.build [(.str []),(.bool false),v0,(.bool false),v0,v0,v0,v0] [(0,1,(C (.str [112,114,105,109]))),(1,1,cT),(2,1,(J 3 0)),(3,1,cF),(4,1,i0),(5,1,i0),(6,1,i3),(7,1,i0)]),s 8 p2 ct] .ret) (q (cK b7 4 p4 15 cz []) (H nZ (q [O cW (.build [(.str []),(.bool false),v0,(.bool false),v0,v0,v0,v0] [(0,1,(C (.str [110,101,119]))),(1,1,cT),(2,1,(J 3 0)),(3,1,cF),(4,1,i0),(5,1,i0),(6,1,i4),(7,1,i0)]),s 8 p2 cW] .ret) (q (cK cH 4 p4 16 cV []) (H tG (q [O di (.build [(.str []),(.bool false),v0,(.bool false),v0,v0,v0,v0] [(0,1,(C (.str [103,101,116]))),(1,1,cT),(2,1,i1),(3,1,cT),(4,1,i0),(5,1,i5),(6,1,i5),(7,1,i0)]),s 8 p2 di] .ret) (q (cK bZ 4 p4 17 cD []) (H se (q [O dl (.build [(.str []),(.bool false),v0,(.bool false),v0,v0,v0,v0] [(0,1,(C (.str [112,117,116]))),(1,1,cF),(2,1,i2),(3,1,cT),(4,1,i0),(5,1,i5),(6,1,i5),(7,1,i0)]),s 8 p2 dl] .ret) (q (cK du 4 p4 18 dh []) (H uX (q [O dw (.build [(.str []),(.bool false),v0,(.bool false),v0,v0,v0,v0] [(0,1,(C (.str [99,97,115,101]))),(1,1,cT),(2,1,(J 3 0)),(3,1,cF),(4,1,i0),(5,1,i0),(6,1,i6),(7,1,i0)]),s 8 p2 dw] .ret) (q (cK da 4 p4 13 dg []) (H pD (q [O dj (.build [(.str []),(.bool false),v0,(.bool false),v0,v0,v0,v0] [(0,1,(C (.str [99,97,108,108]))),(1,1,cT),(2,1,(J 3 1)),(3,1,cF),(4,1,i0),(5,1,i0),(6,1,i0),(7,1,i0)]),s 8 p2 dj] .ret) (q (cK dA 4 p4 21 dq []) (H ql (q [O dt (.build [(.str []),(.bool false),v0,(.bool false),v0,v0,v0,v0] [(0,1,(C (.str [116,104,114,111,119]))),(1,1,cF),(2,1,i1),(3,1,cF),(4,1,i0),(5,1,i0),(6,1,i0),(7,1,i0)]),s 8 p2 dt] .ret) (q (cK dB 4 p4 23 cJ []) (H tJ (q [O dH (.build [(.str []),(.bool false),v0,(.bool false),v0,v0,v0,v0] [(0,1,(C (.str [115,112,97,119,110]))),(1,1,cF),(2,1,i1),(3,1,cF),(4,1,i0),(5,1,i0),(6,1,i0),(7,1,i0)]),s 8 p2 dH] .ret) (q (cK dM 4 p4 24 dX []) (H yw (q [O dk (.build [(.str []),(.bool false),v0,(.bool false),v0,v0,v0,v0] [(0,1,(C (.str [99,104,97,110]))),(1,1,cT),(2,1,i0),(3,1,cT),(4,1,i1),(5,1,i8),(6,1,i0),(7,1,i0)]),s 8 p2 dk] .ret) (q (cK dY 4 p4 25 cR []) (H t53 (q [O dZ (.build [(.str []),(.bool false),v0,(.bool false),v0,v0,v0,v0] [(0,1,(C (.str [115,101,110,100]))),(1,1,cF),(2,1,i2),(3,1,cF),(4,1,i0),(5,1,i0),(6,1,i0),(7,1,i0)]),s 8 p2 dZ] .ret) (q (cK eM 4 p4 26 dR []) (H Ay (q [IR d9 0 1 114 101 99 118 2 3 4 5 6 7,s 8 p2 d9] .ret) (q (cK eN 4 p4 31 eI []) (H wH (q [O eg (.build [(.str []),(.bool false),v0,(.bool false),v0,v0,v0,v0] [(0,1,(C (.str [121,105,101,108,100]))),(1,1,cF),(2,1,i0),(3,1,cF),(4,1,i0),(5,1,i0),(6,1,i0),(7,1,i0)]),s 8 p2 eg] .ret) (q (cK fy 4 p4 32 ep []) (H AA (q [O fS (.build [(.str []),(.bool false),v0,(.bool false),v0,v0,v0,v0] [(0,1,(C (.str [111,117,116]))),(1,1,cF),(2,1,i1),(3,1,cF),(4,1,i0),(5,1,i0),(6,1,i0),(7,1,i0)]),s 8 p2 fS] .ret) (q (cK eO 4 p4 33 fg []) (H Cj (q [O gp (.build [(.str []),(.bool false),v0,(.bool false),v0,v0,v0,v0] [(0,1,(C (.str [105,110]))),(1,1,cT),(2,1,i0),(3,1,cF),(4,1,i0),(5,1,i0),(6,1,i0),(7,1,i0)]),s 8 p2 gp] .ret) (q (cK fJ 4 p4 34 eJ []) (H AD (q [O fU (.build [(.str []),(.bool false),v0,(.bool false),v0,v0,v0,v0] [(0,1,(C (.str [99,111,108,108,101,99,116]))),(1,1,cF),(2,1,i0),(3,1,cF),(4,1,i0),(5,1,i0),(6,1,i0),(7,1,i0)]),s 8 p2 fU] .ret) (q (cK fK 4 p4 35 gf []) (H vf (q [IR eR 0 1 119 101 97 107 2 3 4 5 6 7,s 8 p2 eR] .ret) .skip)))))))))))))))))))))))))))))))))))))))))))))) (q [m fV p0,c ff 182 [AH],s 8 p2 ff] .ret))))
def ZP:aG:=.code 51 [.tmp p4,.tmp p5] (q [O p4 (.bg (I 7 0)),O p5 (.bg (I 7 0))] (q [m bi p0,O bk (.arith .and 7 jX (I 7 4294967295)),m p6 bk] (q [m bo p0,O aZ (.shift .shr jE (I 7 32)),m p7 aZ] (q [m br p1,O bJ (.arith .and 7 jG (I 7 4294967295)),m p8 bJ] (q [m bN p1,O bR (.shift .shr kR (I 7 32)),m p9 bR] (q [m bO p6,m bL p8,O bK (.arith .mul 7 mG mX),m aO bK] (q [m bT p7,m ch p8,O bY (.arith .mul 7 tF o0),m ct aO,O cz (.shift .shr t28 (I 7 32)),sq b7 7 bY cz,m aR b7] (q [m cW aR,O cV (.arith .and 7 n6 (I 7 4294967295)),m aY cV] (q [m cH aR,O di (.shift .shr rc (I 7 32)),m aX di] (q [m cD aY,m bZ p6,m dl p9,O dh (.arith .mul 7 yu n9),sq du 7 cD dh,m aY du] (q [m dw p7,m dg p9,O da (.arith .mul 7 tH pD),m dj aX,sq dq 7 da dj,m dA aY,O dt (.shift .shr uZ (I 7 32)),sq cJ 7 dq dt,m p4 cJ] (q [m dB p0,m dH p1,O dX (.arith .mul 7 si u6),m p5 dX] .ret))))))))))))
def ZQ:aG:=.code 48 [.tmp p2] (q [b p1 24 p0,f p2] (q [bS p3] (S (q (dD p8 3 p1 p9 aO [bS aR]) (Bl 0 (Lp (q [u aY aR aO] (S (H kn .skip (X 0)) (S (Bl 1 (q [x aX 7 p9 aR,ld bi 7 aX,K1 p5,s 7 p5 bi] (q (m bk p3::dD bo 1 p5 aZ br [sq bJ 3 bk br,m p3 bJ]) (q (a bN 2 p5::dD bR 4 bN bO bL [bS bK]) (Bl 2 (Lp (q [u bT bK bL] (S (H tF .skip (X 2)) (S (Bl 3 (q [x ch 2 bO bK,ld bY 2 ch,wJ p7,s 2 p7 bY] (r (m ct p3::dD cz 1 p7 b7 cW [sq cV 3 ct cW,m p3 cV])))) (r (gu cH bK []))))))))))) (r (gu di aR [])))))))) (q (dD cD 3 p1 bZ dl (O dh (.arith .gtr 3 n9 (I 3 1500))::m du dh::dE dw 2 p1 du dg [og da 3 dg 6000 du,o dj du da,m dq dj,d8 dA p3 dq,og dt 3 dA 6000 dq,o cJ dq dt,m p2 cJ])) .ret))))
def ZR:aG:=.code 76 [.tmp p2] (q [b p1 24 p0,f p2] (S (q (eP p6 p1 p7 (c p8 191 [t7]::no p9 p8::m aO p9::dE aR 2 p1 aO aY (dE aX 1 p1 aO bi (G bk (.call (C (.func 192 [] [])) [i0,kn,jX]) aO false::mc bo bk aO::o aZ aO bo::m br aZ::dE bJ 3 p1 br bN (md bR bN br::G bO (.arith .eql 3 qi i0) br false::o bL br bO::m bK bL::dE bT 3 p1 bK ch (G bY (.dG 7 o0 i0) bK false::dE ct 0 bY bK cz [md b7 cz bK,G cW (.arith .gtr 3 yt i0) bK false,o cV bK cW])))))) (H tG (q [f p2] .ret) .skip)) (q [ld cH 4 p1,a di 2 p1,l cD di,Co bZ cD,O dl (.build [(.str []),v0,v0,.aS,.aS] [(0,4,rc),(4,1,yu)]),b dh 246 dl,m p3 dh] (S (q (dD du 3 p1 dw dg [bS da]) (Bl 0 (Lp (q [u dj da dg] (S (H uY .skip (X 0)) (S (Bl 1 (q [x dq 7 dw da,ld dA 7 dq,K1 p5,s 7 p5 dA] (q (eP dt p5 cJ (m dB p3::O dH (.iP 194 [si] [])::c dX 193 [tJ,u6]::no dM dX::m dk dM::dE cR 1 p5 dk dY [d8 dZ p3 dk,G dR (.iP 196 [yA] []) dk false,vh eM 195 dY dR dk,mc d9 eM dk,o eI dk d9,m eN eI,d8 eg p3 eN,K5 ep 2 p5 eN,G fy (.gw 5 AA) eN false,vh fS 197 eg fy eN,mc fg fS eN,o eO eN fg])) (H Ck (q [f p2] .ret) .skip)))) (r (gu gp da [])))))))) (q [m eJ p3,nc fJ eJ,a fU 4 fJ,l gf fU,a fK 1 p1,l eR fK,O fV (.im 4 1 vf (some AG) none none),c ff 198 [AH,(C (.func 199 [] []))],m p2 ff] .ret)))))
def ZS:aG:=.code 79 [.tmp p2] (q [b p1 24 p0,yD p2] (q (ld p8 4 p1::dD p9 3 p1 aO aR [Co aY aR,a aX 3 p1,R bi (.aW kQ) [aY] [],z bk bi,O bo (.jL 252 24 1 [.aS] ma ma),O aZ (.build [(.str []),v0,v0,.aS,.aS,.aS,(.bool false)] [(0,4,t8),(4,1,kn),(5,1,jE)]),b br 194 aZ,O p3 (.alloc 161 [.lS]),s 1 p3 br]) (q [l bJ p3,nc bN bJ,a bR 4 bN,l bO bR,O bL (.dG 1 mG i0),rh bL] (q [O bK (.buildSlice 3 1 [v0] [(0,1,i0)]),oh p4 42,s 1 p4 bK] (S (Bl 0 (Lp (S (q [l bT p4,z ch bT,O bY (.arith .gtr 3 o0 i0)] (H qk .skip (X 0))) (Bl 1 (q [l ct p4,O cz (.dG 1 t28 i0),l b7 cz,m p5 b7] (q [l cW p4,O cV (.im 3 1 n6 (some i1) none none),s 1 p4 cV] (q [l cH p3,m di p5,c cD 175 [rc,n8]] (Bl 2 (.rangeFunc se [bZ,dl] (q [m p6 bZ] (r [m p7 dl])) (Bl 3 (Bl 4 (q (l du p3::nc dw du::fN dg 4 dw da dj p6 dq 1 [l dA dq,no dt dA,m dh dt]) (H uX (q [l cJ p3,nc dB cJ,a dH 4 dB,l dX dH,m dM p6,l dk p3,nc cR dk,a dY 5 cR,l dZ dY,m dR p6,m eM p7,x d9 1 dX dM,rh d9,x eI 1 dZ dR,s 1 eI eM] (r [l eN p4,m eg p6,qp ep eg,K4 fy eN ep,s 1 p4 fy])) (q (l fg p3::nc eO fg::fN gp 5 eO eJ fJ p6 fU 1 [l gf fU,m fK p7,c eR 200 [vf,wI],no fV eR,m fS fV]) (H yB (r [l ff p3,nc fL ff,a fW 6 fL,rh fW]) .skip))))))))))))))) (q [l ie p3,m p2 ie] .ret))))))
def ZT:aG:=.code 136 [.cell p2 false 1] (q [b p1 161 p0,Cq p2] (S (q [l aX p1,nc bi aX,a bk 6 bi,l bo bk] (H jE (q [N (.store 1 t2 cF)] .ret) .skip)) (q [l aZ p1,l bJ p1,oh p3 256,oh p4 257,R br (.call (C (.func 201 [] [])) [jF]) [p4,p3] [⟨bJ,.aW t1,none⟩],R bN (.call (C (.func 202 [] [])) [mW]) [p4,p3] [],s 1 p3 br,s 1 p4 bN] (S (q (l bR p1::nc bO bR::a bL 0 bO::dD bK 3 bL bT ch [bS bY]) (Bl 0 (Lp (q [u ct bY ch] (S (H t28 .skip (X 0)) (S (Bl 1 (q [m cz bY,x b7 7 bT bY,ld cW 7 b7,O p5 (.alloc 3 [v0]),K1 p6,s 1 p5 cz,s 7 p6 cW] (S (q [l cV p1,nc cH cV,a di 4 cH,l cD di,l bZ p5,x dl 1 cD bZ,l dh dl,no du dh] (H sf (X 1) .skip)) (S (q (a dw 2 p6::eP dg dw da []) (Bl 2 (q (cK dq 4 da 68 dj []) (H uY (q (l dt p1::l cJ p5::c dB 203 [t46,tJ]::mZ dA dB dH dX p7 p8 []) (q (m dM p8::no dk dM::m cR dk::K3 dY p1 cR::G dZ (.nilCheck tL) cR false::K5 dR 0 dZ cR::dE eM 3 dR cR d9 (d8 eI p7 cR::so eN 7 d9 eI cR::dE eg 0 eN cR ep (md fy ep cR::K5 fS 2 p6 cR::dE fg 1 fS cR eO [md gp eO cR,G eJ (.arith .neq 3 AB AC) cR false,o fJ cR eJ]))) (H AF (q [N (.store 1 t2 cF)] .ret) .skip))) (q (cK gf 4 da 69 fU []) (H tP (q [l fK p1,nc eR fK,a fV 5 eR,l ff fV,l fL p5,x fW 1 ff fL,l ie fW,z fM ie,O iq (.arith .gtr 3 EC i0)] (H Cl (q [N (.store 1 t2 cF)] .ret) .skip)) .skip)))))) (q [ld iB 7 p6,c ir 180 [AM]] (Bl 3 (.rangeFunc ID [iC,iU] (q [m p9 iC] (r [m aO iU])) (Bl 4 (q [l jD p4,m jk p9,x kl 2 jD jk,ld jw 2 kl,O aR (.alloc 260 [v0,v0]),s 2 aR jw] (q (eP lE aR mR (l l8 p5::O lh (.arith .eql 3 EF EG)::m jV lh::ey kA 1 aR jV jW [K8 nQ aO jV,G mS (.arith .lss 3 Ob IF) jV true,y li jV mS,m aY li])) (q (m mT p9::l nR p1::me oV nR oW 0 oX 1 lj (O km (.arith .geq 3 Oc II)::m mF km::K8 mU aY mF::sn lF mU mF::y pz mF lF::m lm pz::ey nS 0 aR lm oY (pa lG p5 lm::G lH (.arith .eql 3 Oe Of) lm true::K8 kP lH lm::K3 l9 p1 kP::G nT (.nilCheck Oh) kP false::dE lI 4 nT kP nU (dE nV 0 aR kP lJ (so nW 1 nU lJ kP::K3 pA nW kP::mc qV pA kP::G nX (.pick Og cT IM) lm true::K8 kB nX lm::K3 qW p3 kB::dE qf 0 aR kB oZ [K3 qh p5 kB,G pB (.call (C (.func 204 [] [])) [Om,IN,EI]) kB false,mc tA pB kB,G qX (.pick Ol cT IP) lm true,y mV lm qX]))))) (H Oo (q [N (.store 1 t2 cF)] .ret) .skip)))))))))))) (r (gu sc bY [])))))))) (q [rh p2] .ret)))))
def ZU:aG:=.code 6 [.tmp p4] (q [b p2 161 p0,b p3 3 p1,tQ p4] (q [O p5 (.iP 205 [] [t2,t3]),m p4 p5] .ret))
def ZV:aG:=.code 19 [] (q [l p4 p1,z p5 p4,K6 p6 p5,m p3 p6] (Bl 0 (Lp (S (q [m p7 p3,qq p8 p7] (H t8 .skip (X 0))) (S (Bl 1 (q [m aR p0,m aY p3,l aX p1,m bi p3,x bk 1 aX bi,l bo bk,mY aZ aR aY bo,no br aZ] (H jG .ret .skip))) (r [m p9 p3,K6 aO p9,m p3 aO]))))))
def ZW:aG:=.code 4 [.tmp p2] (q [b p1 56 p0,tQ p2] (q [pb p3 207 p1,m p2 p3] .ret))
def ZX:aG:=.code 32 [] (q (l aR p2::m aY p0::O aX (.lookup .int v0 true kD kn)::mZ aO aX bi bk p8 p9 []) (q [m bo p9,no aZ bo,m br aZ,d8 bJ p8 br,d8 bN p1 br,G bR (.arith .geq 3 mW kR) br false,o bO br bR] (H mG (r [l bL p3,l bK p4,x bT 1 bL bK,l ch bT,m bY p0,c ct 179 [o0,qk],m cz ct,K3 b7 p5 cz,o cW cz b7,s 1 p5 cW]) .skip)))
def ZY:aG:=.code 13 [.tmp p4] (q [f p4] (q [m p6 p0,m p7 p1,O p8 (.lookup .int (.bool false) false t6 t7),no p9 p8,m p5 p9] (q [m aO p0,m aR p1,N (.jy .int fA kD cT)] (q [m aY p5,m p4 aY] .ret))))
def ZZ:aG:=.code 4 [.tmp p2] (q [b p1 56 p0,tQ p2] (q [pb p3 208 p1,m p2 p3] .ret))
def Z0:aG:=.code 35 [.cell p4 false 1,.cell p5 false 1] (q [b p2 161 p0,O p4 (.alloc 3 [v0]),Cq p5] (S (q (l p8 p2::nc p9 p8::fN aO 5 p9 aR aY p1 aX 1 [l bi aX,c bk 211 [jX]]) (Bl 0 (.rangeFunc ma [bo,aZ] (r [O p7 (.alloc 255 [v0,(i 4 0)]),s 2 p7 aZ]) (Bl 1 (q [a br 1 p7,l bJ br,K0 bN 4 bJ 0] (H kR (q (l bR p2::me bO bR bL 0 bK 3 bT (eP ch p7 bY (x ct 7 bT bY::a cz 2 ct::a b7 4 cz::l cW b7::O cV (.dG 2 n6 i1)::eP cH cV di [s 1 p4 di,rh p5]))) .ret) .skip)))))) (q [N (.store 1 t4 (J 3 0)),N (.store 1 t5 cF)] .ret)))
def Z1:aG:=.code 47 [.cell p2 true 8] (q [EL p2] (S (q [m p3 p0] (Bl 0 (q (cK p5 4 p3 37 p4 []) (H t4 (q [O p6 (.build [(.str []),(.bool false),v0,(.bool false),v0,v0,v0,v0] [(0,1,(C (.str [114,111,111,116]))),(1,1,cT),(2,1,i0),(3,1,cF),(4,1,i0),(5,1,i0),(6,1,i7),(7,1,i0)]),s 8 p2 p6] .ret) (q (cK p8 4 p3 38 p7 []) (H t7 (q [O p9 (.build [(.str []),(.bool false),v0,(.bool false),v0,v0,v0,v0] [(0,1,(C (.str [115,101,116,114,111,111,116]))),(1,1,cF),(2,1,i1),(3,1,cF),(4,1,i0),(5,1,i0),(6,1,i7),(7,1,i0)]),s 8 p2 p9] .ret) (q (cK aR 4 p3 39 aO []) (H fA (q [O aY (.build [(.str []),(.bool false),v0,(.bool false),v0,v0,v0,v0] [(0,1,(C (.str [116,105,99,107]))),(1,1,cF),(2,1,i0),(3,1,cF),(4,1,i0),(5,1,i0),(6,1,i0),(7,1,i0)]),s 8 p2 aY] .ret) (q (cK bi 4 p3 60 aX []) (H kQ (q [IR bk 0 1 109 111 118 101 2 3 4 5 6 7,s 8 p2 bk] .ret) (q (cK aZ 4 p3 61 bo []) (H jE (q [O br (.build [(.str []),(.bool false),v0,(.bool false),v0,v0,v0,v0] [(0,1,(C (.str [103,111]))),(1,1,cF),(2,1,i0),(3,1,cF),(4,1,i0),(5,1,i0),(6,1,i0),(7,1,i1)]),s 8 p2 br] .ret) (q (cK bN 4 p3 62 bJ []) (H mW (q [O bR (.build [(.str []),(.bool false),v0,(.bool false),v0,v0,v0,v0] [(0,1,(C (.str [105,102]))),(1,1,cF),(2,1,i1),(3,1,cF),(4,1,i0),(5,1,i0),(6,1,i0),(7,1,i2)]),s 8 p2 bR] .ret) (q (cK bL 4 p3 63 bO []) (H mG (q [O bK (.build [(.str []),(.bool false),v0,(.bool false),v0,v0,v0,v0] [(0,1,(C (.str [105,115]))),(1,1,cF),(2,1,i1),(3,1,cF),(4,1,i0),(5,1,i0),(6,1,i6),(7,1,i2)]),s 8 p2 bK] .ret) (q (cK ch 4 p3 64 bT []) (H tF (q [O bY (.build [(.str []),(.bool false),v0,(.bool false),v0,v0,v0,v0] [(0,1,(C (.str [112,97,114,116]))),(1,1,cT),(2,1,i1),(3,1,cT),(4,1,i0),(5,1,i3),(6,1,i0),(7,1,i0)]),s 8 p2 bY] .ret) (q (cK cz 4 p3 65 ct []) (H t28 (q [O b7 (.build [(.str []),(.bool false),v0,(.bool false),v0,v0,v0,v0] [(0,1,(C (.str [104,111,108,100]))),(1,1,cT),(2,1,i1),(3,1,cF),(4,1,i0),(5,1,i0),(6,1,i0),(7,1,i2)]),s 8 p2 b7] .ret) (q (cK cV 4 p3 66 cW []) (H n6 (q [O cH (.build [(.str []),(.bool false),v0,(.bool false),v0,v0,v0,v0] [(0,1,(C (.str [115,101,108,101,99,116]))),(1,1,cF),(2,1,i0),(3,1,cF),(4,1,i0),(5,1,i0),(6,1,i0),(7,1,i0)]),s 8 p2 cH] .ret) (q (cK cD 4 p3 67 di []) (H n8 (q [O bZ (.build [(.str []),(.bool false),v0,(.bool false),v0,v0,v0,v0] [(0,1,(C (.str [116,114,121]))),(1,1,cT),(2,1,i0),(3,1,cF),(4,1,i0),(5,1,i0),(6,1,i0),(7,1,i1)]),s 8 p2 bZ] .ret) (q (cK dh 4 p3 68 dl []) (H n9 (q [O du (.build [(.str []),(.bool false),v0,(.bool false),v0,v0,v0,v0] [(0,1,(C (.str [101,110,100]))),(1,1,cF),(2,1,i0),(3,1,cF),(4,1,i0),(5,1,i0),(6,1,i0),(7,1,i0)]),s 8 p2 du] .ret) (q (cK dg 4 p3 69 dw []) (H tH (q [O da (.build [(.str []),(.bool false),v0,(.bool false),v0,v0,v0,v0] [(0,1,(C (.str [114,101,116]))),(1,1,cF),(2,1,i1),(3,1,cF),(4,1,i0),(5,1,i0),(6,1,i0),(7,1,i0)]),s 8 p2 da] .ret) (q (cK dq 4 p3 70 dj []) (H uY (q [O dA (.build [(.str []),(.bool false),v0,(.bool false),v0,v0,v0,v0] [(0,1,(C (.str [115,116,117,99,107]))),(1,1,cF),(2,1,i0),(3,1,cF),(4,1,i0),(5,1,i0),(6,1,i0),(7,1,i0)]),s 8 p2 dA] .ret) .skip)))))))))))))))))))))))))))))) (q [O dt (.build [(.str []),(.bool false),v0,(.bool false),v0,v0,v0,v0] []),s 8 p2 dt] .ret)))
def Z2:aG:=.code 13 [.tmp p2] (q [f p2] (q [O p3 (.bg (C (.func 214 [] [])))] (q [m p4 p0,O p5 (.kH t4),c p6 192 [i1,(I 3 40),t5],m p7 p6,K8 p8 p0 p7,K8 p9 p3 p7,Cr aO 215 p8 p9 p7,sn aR aO p7,y aY p7 aR,m p2 aY] .ret)))
def Z3:aG:=.code 15 [.tmp p6] (q [f p6] (q [m p7 p2,m p8 p0,O p9 (.arith .geq 3 t7 t8),m aO p9,K8 aR p2 aO,K8 aY p1 aO,G aX (.arith .leq 3 kD kn) aO true,y bi aO aX,m p6 bi] .ret))
def Z4:aG:=.code 9 [.tmp p4] (q [b p3 109 p1,f p4] (q [m p5 p0,pb p6 216 p3,c p7 68 [t5,t6],no p8 p7,m p4 p8] .ret))
def Z5:aG:=.code 34 [.tmp p4] (q [f p4] (S (q (m p5 p0::me p6 p5 p7 0 p8 1 p9 (m aO p0::me aR aO aY 0 aX 2 bi (K6 bk bi::m bo p1::c aZ 192 [t9,ma,jE]::no br aZ::m bJ br::d8 bN p0 bJ::G bR (.nilCheck kR) bJ false::dE bO 4 bR bJ bL [d8 bK p1 bJ,so bT 1 bL bK bJ,K3 ch bT bJ,o bY bJ ch]))) (H qk (q [f p4] .ret) .skip)) (q (m ct p0::nc cz ct::fN b7 4 cz cW cV p1 cH 1 [rh cH]) (q [kC p4] .ret))))
def Z6:aG:=.code 9 [.tmp p4] (q [b p3 248 p1,f p4] (q [m p5 p0,pb p6 218 p3,c p7 217 [t5,t6],no p8 p7,m p4 p8] .ret))
def Z7:aG:=.code 76 [.tmp p4] (q [b p3 58 p1,f p4] (q [ld p8 6 p3,c p9 219 [t8],m p7 p9,ex aO p7 0,ex aR p7 1,EM p5,s 6 p5 aO,m p6 aR] (S (q (m aY p6::no aX aY::m bi aX::dE bk 1 p5 bi bo (dE aZ 2 p5 bi br (dE bJ 2 p3 bi bN (md bR bN bi::G bO (.call (C (.func 192 [] [])) [jE,jG,qi]) bi false::mc bL bO bi::o bK bi bL::m bT bK::dE ch 3 p5 bT bY (dE ct 5 p3 bT cz (G b7 (.call qk [nZ]) bT false::mc cW b7 bT::o cV bT cW::m cH cV::dE di 4 p5 cH cD (dE bZ 5 p5 cH dl (dE dh 3 p3 cH du (G dw (.call (C (.func 192 [] [])) [se,n9,sf]) cH false::mc dg dw cH::o da cH dg::m dj da::dE dq 4 p3 dj dA (G dt (.arith .neq 3 uZ i0) dj false::d8 cJ dt dj::ey dB 0 p3 cJ dH (G dX (.arith .neq 4 u6 (I 4 13)) cJ true::K8 dM dX cJ::dE dk 4 p3 dM cR (G dY (.arith .neq 3 t53 i1) dM false::G dZ (.pick t51 cT tL) cJ true::pE dR cJ dZ dj::o eM dj dR::m d9 eM::dE eI 2 p3 d9 eN [d8 eg p0 d9,G ep (.iP 220 [Az] []) d9 false,vh fy 193 eN ep d9,mc fS fy d9,o fg d9 fS])))))))))))) (H Cj (q [f p4] .ret) .skip)) (S (q (eP eO p5 gp [no eJ gp]) (H AD (q [a fJ 1 p3,l fU fJ,O gf (.arith .eql 3 tP (J 3 0)),m p4 gf] .ret) .skip)) (q [m fK p0,a eR 1 p3,l fV eR,c ff 194 [wI,AH],m p4 ff] .ret)))))
def Z8:aG:=.code 132 [.tmp p4] (q [b p3 54 p1,f p4] (q (dD p6 1 p3 p7 p8 [m p5 p8]) (S (q (a p9 1 p3::l aO p9::m aR p0::O aY (.iP 220 [kD] [])::c aX 193 [fA,kn]::no bi aX::m bk bi::dE bo 0 p3 bk aZ (vj br 4 aZ 63 bk::dE bJ 2 p3 bk bN (G bR (.iE .neq kR (C (.str []))) bk false::G bO (.eq true .bool jG qi) bk false::o bL bk bO::m bK bL::dE bT 0 p3 bK ch (G bY (.arith .neq 4 o0 (I 4 66)) bK false::d8 ct bY bK::ey cz 3 p3 ct b7 [ln cW b7 ct,G cV (.arith .gtr 3 n6 i0) ct true,pE cH ct cV bK,o di bK cH])))) (H n8 (q [f p4] .ret) .skip)) (S (q (eP cD p3 bZ []) (Bl 0 (q (cK dh 4 bZ 61 dl []) (H n9 (q (m du p5::e dw du 0::m dg dw::K8 da p0 dg::ey dj 4 p3 dg dq [G dA (.buildSlice 3 1 [v0] [(0,1,i0)]) dg true,yC dt 221 da dq dA dg,y cJ dg dt,m p4 cJ]) .ret) (q (cK dH 4 bZ 62 dB []) (H si (q (m dX p5::e dM dX 1::m dk dM::K8 cR p0 dk::ey dY 4 p3 dk dZ [G dR (.buildSlice 3 2 [v0] [(0,1,i0),(1,1,i0)]) dk true,yC eM 221 cR dZ dR dk,y d9 dk eM,m p4 d9]) .ret) (q (cK eN 4 bZ 63 eI []) (H wH (q (m eg p5::e ep eg 1::m fy ep::ey fS 2 p3 fy fg (Cp eO 191 fg fy::y gp fy eO::m eJ gp::K8 fJ p0 eJ::ey fU 4 p3 eJ gf [G fK (.buildSlice 3 2 [v0] [(0,1,i0),(1,1,i0)]) eJ true,yC eR 221 fJ gf fK eJ,y fV eJ eR,m p4 fV])) .ret) (q (cK fL 4 bZ 65 ff []) (H AI (q (m fW p5::e ie fW 1::m fM ie::K8 iq p0 fM::ey iB 4 p3 fM ir [G iC (.buildSlice 3 2 [v0] [(0,1,i1),(1,1,i0)]) fM true,yC iU 221 iq ir iC fM,y jD fM iU,m p4 jD]) .ret) (q (cK kl 4 bZ 66 jk []) (H IE (q [m jw p0,ld lE 5 p3,c mR 222 [EE,N8],m p4 mR] .ret) (q (cK lh 4 bZ 67 l8 []) (H EG (q (m jV p5::e kA jV 0::m jW kA::K8 nQ p0 jW::ey mS 4 p3 jW li [Cr mT 223 nQ li jW,y nR jW mT,m p4 nR]) .ret) (q (cK oW 4 bZ 68 oV []) (H EH (q (m oX p5::O lj (.arith .gtr 3 IH i0)::m km lj::ey mF 4 p3 km mU [ln lF mU km,wK pz lF km,y lm km pz,m p4 lm]) .ret) (S (q (cK oY 4 bZ 69 nS []) (H IK .skip (r (cK lG 4 bZ 21 nS [])))) (H IK (q (m lH p5::e kP lH 1::m l9 kP::ey nT 4 p3 l9 lI [ln nU lI l9,wK nV nU l9,y lJ l9 nV,m p4 lJ]) .ret) (q (cK pA 4 bZ 70 nW []) (H IL (q (m qV p5::e nX qV 0::m kB nX::ey qW 4 p3 kB qf [ln oZ qf kB,wK qh oZ kB,y pB kB qh,m p4 pB]) .ret) .skip)))))))))))))))))))) (q [f p4] .ret)))))
def Z9:aG:=.code 9 [.tmp p4] (q [b p3 251 p1,f p4] (q [m p5 p0,pb p6 225 p3,c p7 224 [t5,t6],no p8 p7,m p4 p8] .ret))
def Z':aG:=.code 4 [.tmp p2] (q [f p2] (q [m p3 p0,m p2 p3] .ret))
def aaa:aG:=.code 26 [.tmp p4] (q [f p4] (S (q [m p6 p0,z p7 p6,m p8 p1,z p9 p8,tT aO p7 p9] (H fA (q [f p4] .ret) .skip)) (S (q [m aR p0,z aY aR,bS aX] (Bl 0 (Lp (q [u bi aX aY] (S (H jX .skip (X 0)) (S (Bl 1 (q [m bk aX,m p5 bk] (q [m bo p0,m aZ p5,x br 2 bo aZ,ld bJ 2 br,m bN p1,m bR p5,x bO 2 bN bR,ld bL 2 bO,O bK (.eq true (.fi [(0,1,false,.int),(1,1,false,.int)]) mW mX)] (H qj (q [f p4] .ret) .skip)))) (r (gu bT aX [])))))))) (q [kC p4] .ret))))
def aab:aG:=.code 94 [.tmp p2] (q [nl p2] (q [m bk p0,c bo 114 [ma],m p3 bo] (q (m aZ p0::nc br aZ::a bJ 0 br::dD bN 3 bJ bR bO [O bL (.jL 3 8 1 [v0] mG mG),O bK (.buildSlice 3 1 [v0] [(0,1,(J 3 0))]),m bT p0,nc ch bT,a bY 0 ch,a ct 3 bY,R cz (.aW t28) [bK,bL] [],z b7 cz,oh p4 42,oh p5 42,R cW (.call (C (.func 91 [] [])) [qj,yt]) [p5,p4,bL] [⟨bR,.aW kR,none⟩],s 1 p4 bL,s 1 p5 cW]) (S (q [m cV p3,z cH cV,bS di] (Bl 0 (Lp (q [u cD di cH] (S (H se .skip (X 0)) (S (Bl 1 (q [m bZ di,x dl 1 cV di,l dh dl,m p6 bZ,m p7 dh] (r [l du p4,m dw p7,m dg p6,x da 1 du dw,s 1 da dg]))) (r (gu dj di [])))))))) (q [O dq (.iP 226 [] [t4,t5]),m p8 dq] (q [l dA p5,O dt (.dG 1 uZ i0),N (.store 1 t46 i0)] (S (q [kC p9] (Bl 2 (Lp (S (q [m cJ p9] (H tJ .skip (X 2))) (Bl 3 (q [f p9] (q [m dB p3,z dH dB,bS dX] (Bl 4 (Lp (q [u dM dX dH] (S (H t51 .skip (X 4)) (S (Bl 5 (q [x dk 1 dB dX,l cR dk,m aR cR] (q [m dY p0,m dZ aR,c dR 142 [tL,yA],z eM dR,bS d9] (Bl 6 (Lp (q [u eI d9 eM] (S (H wH .skip (X 6)) (S (Bl 7 (q [x eN 1 dR d9,l eg eN,m aX eg] (q [m ep aR,m bi ep] (S (q [l fy p5,m fS aX,x fg 1 fy fS,l eO fg,O gp (.arith .neq 3 Ck (J 3 0))] (H AC (r [m eJ p8,l fJ p5,m fU aX,x gf 1 fJ fU,l fK gf,m eR aR,mY fV eJ fK eR,m bi fV]) .skip)) (q [m ff aX,vm fL ff,m fW fL,pa ie p5 fW,K8 fM aX fW,sr iq 1 ie fM fW,pa iB iq fW,K8 ir bi fW,G iC (.arith .neq 3 AM ID) fW true,y iU fW iC] (H XX (r [l jD p5,m jk aX,m kl bi,x jw 1 jD jk,s 1 jw kl,kC p9]) .skip)))))) (r (gu lE d9 [])))))))))) (r (gu mR dX [])))))))))))))) (q [l l8 p5,O lh (.dG 1 EG i0),N (.store 1 N9 (J 3 0))] (q [l jV p5,m p2 jV] .ret)))))))))
def aac:aG:=.code 39 [.tmp p2] (q [nl p2] (q (O p8 (.build [v0,v0] [(0,1,(J 3 0)),(1,1,(J 3 0))])::O p9 (.buildSlice 260 1 [v0,v0] [(0,2,t8)])::m aO p0::me aR aO aY 0 aX 2 bi [c bk 227 [t9,jX],oh p3 257,s 1 p3 bk]) (S (q (m bo p0::nc aZ bo::a br 0 aZ::dD bJ 3 br bN bR [bS bO]) (Bl 0 (Lp (q [u bL bO bR] (S (H mX .skip (X 0)) (S (Bl 1 (q [m bK bO,x bT 7 bN bO,ld ch 7 bT,O p4 (.alloc 3 [v0]),K1 p5,s 1 p4 bK,s 7 p5 ch] (q [ld bY 7 p5,c ct 177 [qk]] (Bl 2 (.rangeFunc t28 [cz,b7] (q [m p6 cz] (r [m p7 b7])) (Bl 3 (r [l cW p3,m cV p6,l cH p4,m di p7,O cD (.build [v0,v0] [(0,1,rc),(1,1,n8)]),x bZ 2 cW cV,s 2 bZ cD]))))))) (r (gu dl bO [])))))))) (q [l dh p3,m p2 dh] .ret))))
def aad:aG:=.code 36 [.tmp p4,.tmp p5] (q [bS p4,f p5] (q (m p7 p0::nc p8 p7::fN p9 5 p8 aO aR p1 aY 1 [l aX aY,m p6 aX]) (S (q [m bi p6,z bk bi,e bo bk 0] (H jE (q [O p4 (.bg (J 3 0)),f p5] .ret) .skip)) (q (m aZ p0::me br aZ bJ 0 bN 3 bR (m bO p6::m bL p6::z bK bL::K6 bT bK::x ch 2 bO bT::eP bY ch ct (x cz 7 bR ct::a b7 2 cz::a cW 4 b7::l cV cW::O cH (.dG 2 tG i2)::eP di cH cD [m p4 cD,kC p5]))) .ret))))
def aae:aG:=.code 16 [.tmp p6] (q [f p6] (q [m p7 p1,m p8 p2,tT p9 p7 p8,m aO p9,K8 aR p0 aO,K8 aY p1 aO,K8 aX p2 aO,yC bi 228 aR aY aX aO,y bk aO bi,m p6 bk] .ret))
def aaf:aG:=.code 87 [] (q (l aY p1::me aX aY bi 0 bk 3 bo [l aZ p2,x br 7 bo aZ,a bJ 2 br,ld bN 5 bJ,l bR p1,nc bO bR,a bL 5 bO,l bK bL,l bT p2,x ch 1 bK bT,l bY ch,IS p4,M (.store 5 t4 kR) [] [⟨bY,.aW o0,none⟩,⟨bT,.aW t2,none⟩,⟨bK,.aW mX,none⟩,⟨bR,.aW t1,none⟩],m p5 bY]) (q (eP ct p4 cz []) (Bl 0 (q (cK dA 4 cz 67 dq []) (H ql (q [O dt (.buildSlice 5 2 [(i 4 0)] [(0,1,(I 4 0)),(1,1,(I 4 1))]),z cJ dt,bS dB] (Bl 3 (Lp (q [u dH dB cJ] (S (H u6 .skip (X 3)) (S (Bl 4 (q [m dX dB,x dM 1 dt dB,l dk dM,m p6 dX,m p7 dk] (q (m cR p0::fN dY 4 p4 dZ dR p6 eM 2 (eP d9 eM eI [m eN p5,l ep p2,m fy p7,O fS (.build [v0,(i 4 0)] [(0,1,AA),(1,1,AB)]),O fg (.buildSlice 255 1 [v0,(i 4 0)] [(0,2,yB)]),R eg (.call (C (.func 206 [] [])) [vc]) [fg] [⟨ep,.aW t2,none⟩,⟨eI,.aW rf,none⟩,⟨dZ,.aW tL,none⟩],R eO (.append 255 16 2 [v0,(i 4 0)] false Az Cj) [] [⟨eI,.aW rf,none⟩,⟨dZ,.aW tL,none⟩],mY gp cR eI eO,no eJ gp])) (H AD .ret .skip)))) (r (gu fJ dB [])))))))) (q (cK gf 4 cz 68 fU []) (H tP (q (l eR p1::l fV p2::c ff 203 [AG,AH]::mZ fK ff fL fW p8 p9 []) (q [m ie p9] (H AL (r [m fM p0,m iq p8,m iB p5,m ir p5,z iC ir,K6 iU iC,AP jD 255 2 iB iU,mY jk fM iq jD]) .skip))) (q (dD b7 4 p4 cW cV [bS cH]) (Bl 1 (Lp (q [u di cH cV] (S (H n8 .skip (X 1)) (S (Bl 2 (q [x cD 2 cW cH,ld bZ 2 cD,wJ aR,s 2 aR bZ] (q (m dl p0::eP dh aR du [m dw p5,mY dg dl du dw,no da dg]) (H Ax .ret .skip)))) (r (gu dj cH [])))))))))))))))
def aag:aG:=.code 9 [.tmp p2] (q [nl p2] (q [m p3 p0,m p4 p0,z p5 p4,m p6 p0,z p7 p6,O p8 (.im 255 2 t3 none (some t5) (some t7)),m p2 p8] .ret))
def aah:aG:=.code 39 [] (S (q (dD p7 0 p1 p8 p9 [bS aO]) (Bl 0 (Lp (q [u aR aO p9] (S (H kD .skip (X 0)) (S (Bl 1 (q [x aY 1 p8 aO,l aX aY,m p4 aX] (q [m bi p0,m bk p4,O bo (.call jX [ma,(J 3 0)]),no aZ bo] (H jF .ret .skip)))) (r (gu br aO [])))))))) (q (dD bJ 1 p1 bN bR [bS bO]) (Bl 2 (Lp (q [u bL bO bR] (S (H mX .skip (X 2)) (S (Bl 3 (q [m bK bO,x bT 6 bN bO,ld ch 6 bT,AN p6,m p5 bK,s 6 p6 ch] (q (a bY 1 p6::l ct bY::O cz (.arith .neq 3 t28 (J 3 0))::m b7 cz::K8 cW p0 b7::ey cV 1 p6 b7 cH [K8 di p5 b7,G cD (.call n6 [rc,n8]) b7 true,sn bZ cD b7,y dl b7 bZ]) (H n9 .ret .skip)))) (r (gu dh bO [])))))))))
def aai:aG:=.code 50 [] (q [b p2 217 p0] (q [pb p9 209 p2,m p3 p9] (S (q (dD aO 1 p1 aR aY [bS aX]) (Bl 0 (Lp (q [u bi aX aY] (S (H jX .skip (X 0)) (S (Bl 1 (q [m bk aX,x bo 6 aR aX,ld aZ 6 bo,AN p5,m p4 bk,s 6 p5 aZ] (q [m br p3,m bJ p4,a bN 2 p5,l bR bN,mY bO br bJ bR,no bL bO] (H mX .ret .skip)))) (r (gu bK aX [])))))))) (q (dD bT 1 p1 ch bY [m p6 bY]) (S (q [m ct p3,m cz p6,a b7 2 p1,a cW 1 b7,l cV cW,mY cH ct cz cV,no di cH] (H n8 .ret .skip)) (q (a cD 2 p1::dD bZ 4 cD dl dh [bS du]) (Bl 2 (Lp (q [u dw du dh] (S (H tH .skip (X 2)) (S (Bl 3 (q [x dg 2 dl du,ld da 2 dg,wJ p8,s 2 p8 da] (q [m dj p3,m dq p6,a dA 1 p8,l dt dA,mY cJ dj dq dt,no dB cJ] (H si .ret .skip)))) (r (gu dH du [])))))))))))))
def aaj:aG:=.code 10 [.tmp p5] (q [b p3 3 p0,f p5] (q [m p6 p1,O p7 (.iP 210 [] [t2,t3]),c p8 68 [t6,t7],no p9 p8,m p5 p9] .ret))
def aak:aG:=.code 10 [.tmp p4] (q [f p4] (q [l p5 p1,m p6 p0,l p7 p2,mY p8 p5 p6 p7,no p9 p8,m p4 p9] .ret))
def aal:aG:=.code 4 [.tmp p2] (q [b p1 252 p0,tQ p2] (q [pb p3 229 p1,m p2 p3] .ret))
def aam:aG:=.code 13 [.tmp p2] (q [f p2] (q [m p3 p0,O p4 (.arith .lss 2 t3 (I 2 33)),m p5 p4,d8 p6 p0 p5,og p7 2 p6 126 p5,o p8 p5 p7,m p9 p8,d8 aO p0 p9,vj aR 2 aO 34 p9,o aY p9 aR,m p2 aY] .ret))
def aan:aG:=.code 9 [.tmp p4] (q [f p4] (q [m p5 p0,m p6 p1,c p7 230 [t5,t6],qq p8 p7,m p4 p8] .ret))
def aao:aG:=.code 8 [.tmp p3] (q [f p3] (q [l p4 p1,m p5 p0,lL p6 p4 p5,no p7 p6,m p3 p7] .ret))
def aap:aG:=.code 9 [.tmp p4] (q [f p4] (q [m p5 p0,m p6 p1,c p7 231 [t5,t6],qq p8 p7,m p4 p8] .ret))
def aaq:aG:=.code 8 [.tmp p3] (q [b p2 58 p0,f p3] (q [l p4 p1,ld p5 6 p2,lL p6 p4 p5,no p7 p6,m p3 p7] .ret))
def aar:aG:=.code 44 [.cell p2 true 6,.tmp p3] (q [b p1 58 p0,EM p2,f p3] (S (Bl 0 (q (eP p7 p1 p8 (cK p9 4 p8 14 p6 [])) (H t6 (q (a aR 5 p1::l aY aR::c aX 232 [kn]::mZ aO aX bi bk p4 p5 []) (q [m bo p4,m aZ p4,c br 233 [cT,jE,jF],m bJ p5,s 6 p2 br,m p3 bJ] .ret)) (q (eP bR p1 bO (cK bL 4 bO 13 bK (ey bT 4 p1 bK ch [G bY (.arith .eql 3 o0 i1) bK true,y ct bK bY,m bN ct]))) (H kR (q [c cz 233 [cT,i0,i6],s 6 p2 cz,kC p3] .ret) (q (eP cW p1 cV (cK cH 4 cV 13 b7 [])) (H yt (q [O di (.build [(.bool false),v0,v0,.nilFunc,v0,v0] [(0,1,cT),(1,1,i1),(2,1,i7),(3,1,(C (.func 234 [] []))),(4,1,i0),(5,1,i0)]),s 6 p2 di,kC p3] .ret) .skip))))))) (q (eP dl p1 dh [R bZ (.call (C (.func 235 [] [])) []) [] [⟨dh,.aW n9,none⟩],O du (.lookup .int (.agg [(.bool false),v0,v0,.nilFunc,v0,v0]) true yu uX),m cD du,ex dw cD 0,ex dg cD 1,s 6 p2 dw,m p3 dg]) (q [ld da 6 p2,m dj p3,s 6 p2 da,m p3 dj] .ret))))
def aas:aG:=.code 13 [.tmp p4] (q [f p4] (q (m p5 p0::me p6 p5 p7 0 p8 2 p9 [K6 aO p9,m aR p1,c aY 192 [i0,fA,kD],m p4 aY]) .ret))
def aat:aG:=.code 30 [.tmp p6] (q [f p6] (S (q [m p9 p1,z aO p9,m aR p2,z aY aR,tT aX aO aY] (H kQ (q [f p6] .ret) .skip)) (S (q [m bi p1,z bk bi,bS bo] (Bl 0 (Lp (q [u aZ bo bk] (S (H jF .skip (X 0)) (S (Bl 1 (q [m br bo,x bJ 2 bi bo,ld bN 2 bJ,wJ p8,m p7 br,s 2 p8 bN] (q (m bR p0::ld bO 2 p8::jH bL p2 bK p7 bT ch [c bY 236 [qi,mG,o0],no ct bY]) (H t28 (q [f p6] .ret) .skip)))) (r (gu cz bo [])))))))) (q [kC p6] .ret))))
def aau:aG:=.code 68 [.tmp p4] (q [b p3 54 p1,f p4] (q [nl p5] (q [bS p6] (S (q (dD aO 3 p3 aR aY [bS aX]) (Bl 0 (Lp (q [u bi aX aY] (S (H jX .skip (X 0)) (S (Bl 1 (q [m bk aX,x bo 1 aR aX,l aZ bo,m p7 bk,m p8 aZ] (S (q (m br p8::O bJ (.arith .lss 4 jG (I 4 1))::m bN bJ::d8 bR p8 bN::og bO 4 bR 3 bN::o bL bN bO::m bK bL::d8 bT p8 bK::vj ch 4 bT 3 bK::d8 bY ch bK::K8 ct p7 bY::ey cz 3 p3 bY b7 [ln cW b7 bY,G cV (.arith .sub 3 n6 i1) bY true,G cH (.arith .lss 3 t28 tG) bY true,pE di bY cH bK,o cD bK di]) (H se (q [f p4] .ret) .skip)) (q [bS p9] (S (q [m bZ p8] (Bl 2 (q (cK dh 4 bZ 1 dl []) (H n9 (r [m du p6,pl dw du 2,m p6 dw]) (q (cK da 4 bZ 2 dg []) (H pD (q (ig dj p6 dq []) (r [k p9 1])) .skip)))))) (r [m dA p5,m dt p9,qp cJ dt,K4 dB dA cJ,m p5 dB])))))) (r (gu dH aX [])))))))) (q (dD dX 3 p3 dM dk (c cR 192 [i1,i4,yz]::m dY cR::ey dZ 1 p3 dY dR (ln eM dR dY::K8 d9 p6 dY::G eI (.arith .eql 3 u9 rf) dY true::y eN dY eI::m eg eN::K8 ep p0 eg::ey fy 4 p3 eg fS [K8 fg p5 eg,yC eO 221 ep fS fg eg,y gp eg eO,m p4 gp]))) .ret)))))
def aav:aG:=.code 61 [.tmp p4] (q [f p4] (S (q [m p6 p1,z p7 p6,O p8 (.arith .neq 3 t7 i3)] (H t8 (q [f p4] .ret) .skip)) (q [m p9 p1,O aO (.dG 2 t9 i2),ld aR 2 aO,wJ p5,s 2 p5 aR] (q (m aY p0::m aX p1::O bi (.im 64 2 kQ none (some i2) none)::O bk (.buildSlice 3 2 [v0] [(0,1,i0),(1,1,i1)])::c bo 221 [kn,jX,ma]::m aZ bo::K8 br p1 aZ::G bJ (.dG 2 jG i0) aZ true::ey bN 1 bJ aZ bR (ln bO bR aZ::K8 bL p1 aZ::G bK (.dG 2 mX i1) aZ true::ey bT 1 bK aZ ch (ln bY ch aZ::G ct (.arith .add 3 mG qk) aZ true::ey cz 1 p5 aZ b7 (ln cW b7 aZ::G cV (.arith .add 3 t28 n6) aZ true::wK cH cV aZ::y di aZ cH::m cD di::K8 bZ p0 cD::G dl (.nilCheck yu) cD true::EK dh 0 dl cD::ey du 3 dh cD dw (ln dg dw cD::G da (.arith .sub 3 pD i1) cD true::ey dj 0 p5 cD dq (G dA (.call (C (.func 192 [] [])) [i1,Ax,ql]) cD true::y dt cD dA::m cJ dt::K8 dB p0 cJ::G dH (.nilCheck si) cJ true::EK dX 0 dH cJ::ey dM 3 dX cJ dk (ey cR 0 p5 cJ dY (sr dZ 7 dk dY cJ::ey dR 0 dZ cJ eM [ln d9 eM cJ,G eI (.arith .gtr 3 rf i0) cJ true,y eN cJ eI,m p4 eN])))))))) .ret))))
def aaw:aG:=.code 9 [.tmp p4] (q [f p4] (q [m p5 p0,m p6 p1,c p7 237 [t5,t6],qq p8 p7,m p4 p8] .ret))
def aax:aG:=.code 8 [.tmp p3] (q [f p3] (q [l p4 p1,m p5 p0,lL p6 p4 p5,no p7 p6,m p3 p7] .ret))
def aay:aG:=.code 26 [.tmp p6] (q [bS p6] (S (Bl 0 (Lp (S (q [m p7 p0,m p8 p1,tT p9 p7 p8] (H t9 .skip (X 0))) (Bl 1 (S (q [l aO p2,m aR p0,x aY 1 aO aR,l aX aY,l bi p2,m bk p1,x bo 1 bi bk,l aZ bo,u br aX aZ] (H jG (r [m bJ p1,m bN p0,m p0 bJ,m p1 bN]) .skip)) (r [l bR p3,m bO p0,x bL 1 bR bO,l bK bL,m p0 bK])))))) (q [m bT p0,m p6 bT] .ret)))
def aaz:aG:=.code 48 [.tmp p4] (q [nl p4] (S (q [m p9 p1,O aO (.arith .lss 3 t9 i0)] (H fA (r [O aR (.lT 9 (C (.str [99,97,110,110,111,116,32,98,101,32,110,101,103,97,116,105,118,101]))),N (.pM)]) .skip)) (q (m aX p0::z bi aX::oq bk 7 bi::m bo p1::oq aZ 7 bo::c br 131 [ma,jF]::mZ aY br bJ bN p5 p6 []) (S (q [m bR p5,O bO (.arith .gtr 7 qi (I 7 0)),m bL bO,d8 bK p6 bL,og bT 7 bK 9223372036854775807 bL,o ch bL bT] (H o0 (r [O bY (.lT 9 (C (.str [116,104,101,32,114,101,115,117,108,116,32,111,102,32,40,108,101,110,40,120,41,32,42,32,99,111,117,110,116,41,32,111,118,101,114,102,108,111,119,115]))),N (.pM)]) .skip)) (q [m ct p6,oq cz 3 ct,O b7 (.jL 260 16 2 [v0,v0] nZ nZ),m p7 b7] (q [m cW p7,m cV p0,O cH (.copy 2 n6 tG),m p8 cH] (S (Bl 0 (Lp (S (q [m di p8,m cD p7,z bZ cD,u dl di bZ] (H n9 .skip (X 0))) (Bl 1 (r [m dh p8,m du p7,m dw p8,O dg (.im 260 2 sf (some tH) none none),m da p7,m dj p8,AP dq 260 2 da dj,O dA (.copy 2 pD ql),sq dt 3 dh dA,m p8 dt]))))) (q [m cJ p7,m p4 cJ] .ret))))))))
def aaA:aG:=.code 21 [.tmp p6] (q [f p6] (S (Bl 0 (Lp (S (q [m p7 p2,O p8 (.arith .neq 3 t7 (J 3 0)),m p9 p8,K8 aO p2 p9,K8 aR p1 p9,G aY (.arith .neq 3 fA kD) p9 true,y aX p9 aY] (H kQ .skip (X 0))) (Bl 1 (r (jH bi p0 bk p2 bo aZ [m p2 aZ])))))) (q [m br p2,m bJ p1,O bN (.arith .eql 3 jG mW),m p6 bN] .ret)))
def aaB:aG:=.code 19 [] (q [l p4 p1,z p5 p4,K6 p6 p5,m p3 p6] (Bl 0 (Lp (S (q [m p7 p3,qq p8 p7] (H t8 .skip (X 0))) (S (Bl 1 (q [m aR p0,m aY p3,l aX p1,m bi p3,x bk 2 aX bi,ld bo 2 bk,mY aZ aR aY bo,no br aZ] (H jG .ret .skip))) (r [m p9 p3,K6 aO p9,m p3 aO]))))))
def aaC:aG:=.code 8 [.tmp p4] (q [bS p4] (q [m p5 p0,m p6 p1,c p7 238 [t5,t6,cT],m p4 p7] .ret))
def aaD:aG:=.code 19 [.tmp p4] (q [bS p4] (S (q [m p6 p0,z p7 p6,bS p8] (Bl 0 (Lp (q [u p9 p8 p7] (S (H t9 .skip (X 0)) (S (Bl 1 (q [m aO p8,m p5 aO] (q [m aR p1,m aY p0,m aX p5,x bi 6 aY aX,ld bk 6 bi,lL bo aR bk] (H jE (q [m aZ p5,m p4 aZ] .ret) .skip)))) (r (gu br p8 [])))))))) (q [O p4 (.bg (J 3 0))] .ret)))
def aaE:aG:=.code 32 [.tmp p2,.tmp p3] (q [bS p2,f p3] (q [O p9 (.jL 292 32 3 [(i 4 0),v0,(.str [])] i4 i4),m p4 p9] (S (q [m aO p4,z aR aO,bS aY] (Bl 0 (Lp (q [u aX aY aR] (S (H kQ .skip (X 0)) (S (Bl 1 (q [m bi aY,m p5 bi] (q [m bo p0,m aZ p4,m br p5,AP bJ 292 3 aZ br,c bN 239 [jE,mW],m bk bN,ex bR bk 0,ex bO bk 1,ex bL bk 2,O p6 (.alloc 292 [(i 4 0),v0,(.str [])]),s 3 p6 bR,m p7 bO,m p8 bL] (q [m bK p8,O bT (.arith .neq 3 qj (I 3 10)),m ch bT,K8 bY p8 ch,G ct (.arith .neq 3 qk i2) ch true,y cz ch ct] (H nZ (q [m b7 p5,m p2 b7,kC p3] .ret) .skip))))) (r (gu cW aY [])))))))) (q [bS p2,f p3] .ret))))
def aaF:aG:=.code 11 [.cell p6 true 6] (q [EM p6] (q [m p7 p0,m p8 p1,m p9 p2,O aO (.build [(.bool false),v0,v0,.nilFunc,v0,v0] [(0,1,t7),(1,1,t8),(2,1,t9),(3,1,(C (.func 191 [] []))),(4,1,i0),(5,1,i0)]),s 6 p6 aO] .ret))
def aaG:aG:=.code 5 [.tmp p2] (q [f p2] (q [m p3 p0,O p4 (.iE .eql t3 (C (.str []))),m p2 p4] .ret))
def aaH:aG:=.code 26 [.tmp p0] (q [O p0 (.bg (C .cY))] (q [O p1 (.jK),O p2 (.build [(.bool false),v0,v0,.nilFunc,v0,v0] [(0,1,cT),(1,1,i0),(2,1,i0),(3,1,(C (.func 234 [] []))),(4,1,(J 3 999999999)),(5,1,(I 3 1000000000))]),K9 p1 4 1 p2,O p3 (.build [(.bool false),v0,v0,.nilFunc,v0,v0] [(0,1,cT),(1,1,i0),(2,1,i0),(3,1,(C (.func 234 [] []))),(4,1,i0),(5,1,i1)]),K9 p1 4 2 p3,O p4 (.build [(.bool false),v0,v0,.nilFunc,v0,v0] [(0,1,cT),(1,1,i0),(2,1,i0),(3,1,(C (.func 240 [] []))),(4,1,i0),(5,1,i0)]),K9 p1 4 3 p4,c p5 241 [cT,i0],N (.jy .int t1 (I 4 4) t5),c p6 233 [cT,i0,i0],K9 p1 4 11 p6,c p7 233 [cT,i0,(I 3 1073741824)],K9 p1 4 40 p7,c p8 233 [cT,i0,i6],K9 p1 4 15 p8,c p9 233 [cT,i0,i6],K9 p1 4 18 p9,c aO 233 [cT,i0,i0],K9 p1 4 37 aO,c aR 233 [cF,i1,i1],K9 p1 4 38 aR,O aY (.build [(.bool false),v0,v0,.nilFunc,v0,v0] [(0,1,cT),(1,1,i1),(2,1,i1),(3,1,(C (.func 191 [] []))),(4,1,i0),(5,1,i5)]),K9 p1 4 16 aY,O aX (.build [(.bool false),v0,v0,.nilFunc,v0,v0] [(0,1,cF),(1,1,i2),(2,1,i2),(3,1,(C (.func 191 [] []))),(4,1,i0),(5,1,i5)]),K9 p1 4 17 aX,c bi 241 [cF,i1],K9 p1 4 23 bi,O bk (.build [(.bool false),v0,v0,.nilFunc,v0,v0] [(0,1,cT),(1,1,i0),(2,1,i0),(3,1,(C (.func 234 [] []))),(4,1,i1),(5,1,i8)]),K9 p1 4 24 bk,c bo 241 [cF,i2],K9 p1 4 25 bo,c aZ 241 [cT,i1],K9 p1 4 26 aZ,c br 241 [cF,i0],K9 p1 4 31 br,c bJ 241 [cF,i1],K9 p1 4 32 bJ,c bN 241 [cT,i0],K9 p1 4 33 bN,c bR 241 [cF,i0],K9 p1 4 34 bR,c bO 241 [cT,i1],K9 p1 4 35 bO,c bL 241 [cF,i0],K9 p1 4 39 bL,O bK (.build [(.bool false),v0,v0,.nilFunc,v0,v0] [(0,1,cT),(1,1,i1),(2,1,i1),(3,1,(C (.func 234 [] []))),(4,1,i0),(5,1,i3)]),K9 p1 4 64 bK,m bT p1,m p0 bT] .ret))
def aaI:aG:=.code 43 [.tmp p6] (q [b p4 64 p1,f p6] (q (m p7 p0::nc p8 p7::a p9 0 p8::dD aO 3 p9 aR aY (K6 aX aY::eP bi p4 bk (c bo 192 [i1,kQ,ma]::m aZ bo::K8 br p0 aZ::G bJ (.nilCheck jG) aZ true::EK bN 0 bJ aZ::ey bR 3 bN aZ bO (ey bL 0 p4 aZ bK (sr bT 7 bO bK aZ::ey ch 0 bT aZ bY (ln ct bY aZ::ey cz 1 p4 aZ b7 (ln cW b7 aZ::K8 cV p2 aZ::G cH (.arith .add 3 n6 tG) aZ true::G di (.arith .eql 3 t28 rc) aZ true::y cD aZ di::m bZ cD::ey dl 1 p4 bZ dh [K8 du p0 bZ,G dw (.iP 220 [sf] []) bZ true,Cr dg 193 dh dw bZ,y da bZ dg,m p6 da]))))))) .ret))
def aaJ:aG:=.code 19 [.tmp p4] (q [bS p4] (S (q [m p6 p0,z p7 p6,bS p8] (Bl 0 (Lp (q [u p9 p8 p7] (S (H t9 .skip (X 0)) (S (Bl 1 (q [m aO p8,m p5 aO] (q (m aR p1::jH aY p0 aX p5 bi bk [lL bo aR bk]) (H jE (q [m aZ p5,m p4 aZ] .ret) .skip)))) (r (gu br p8 [])))))))) (q [O p4 (.bg (J 3 0))] .ret)))
def aaK:aG:=.code 21 [.tmp p6] (q [bS p6] (S (q [m p9 p0,O aO (.rF t9)] (Bl 0 (Lp (q [O aR (.vJ fA),ex aY aR 0] (S (H kn .skip (X 0)) (Bl 1 (q [ex aX aR 1,ex bi aR 2,m p7 aX,m p8 bi] (q [m bk p1,m bo p8,lL aZ bk bo,m br p2,O bJ (.eq false .bool jF jG)] (H mW (q [m bN p7,m p6 bN] .ret) .skip))))))))) (q [O p6 (.bg (J 3 0))] .ret)))
def aaL:aG:=.code 39 [.cell p4 true 3,.tmp p5,.tmp p6] (q [O p4 (.alloc 292 [(i 4 0),v0,(.str [])]),O p5 (.bg (C (.str []))),bS p6] (q [m p8 p0,c p9 242 [t8],m p7 p9] (S (Bl 0 (q [m aR p7,e aY aR 0,m aO aY] (H fA (q [ld aX 3 p4,s 3 p4 aX,O p5 (.bg (C (.str []))),k p6 10] .ret) (q [m bk p1,z bo bk,m aZ p7,tT br bo aZ,m bi br] (H jX (q [ld bJ 3 p4,s 3 p4 bJ,O p5 (.bg (C (.str []))),k p6 2] .ret) (q [m bR p1,c bO 243 [qi,(C (.func 244 [] []))],no bL bO,m bK bL,d8 bT p0 bK,d8 ch p1 bK,vh bY 245 bT ch bK,mc ct bY bK,o cz bK ct,m bN cz] (H kR (q [ld b7 3 p4,s 3 p4 b7,O p5 (.bg (C (.str []))),k p6 11] .ret) .skip))))))) (q [m cV p0,m cH p1,c di 246 [tG,rc],m cW di,ex cD cW 0,ex bZ cW 1,s 3 p4 cD,m p5 bZ] (q [ld dl 3 p4,m dh p5,s 3 p4 dl,m p5 dh,bS p6] .ret)))))
def aaM:aG:=.code 13 [.tmp p2] (q [f p2] (q [O p3 (.bg (C (.func 247 [] [])))] (q [m p4 p0,O p5 (.kH t4),O p6 (.arith .leq 3 t5 (I 3 200)),m p7 p6,K8 p8 p0 p7,K8 p9 p3 p7,Cr aO 215 p8 p9 p7,sn aR aO p7,y aY p7 aR,m p2 aY] .ret)))
def aaN:aG:=.code 9 [.cell p4 true 6] (q [EM p4] (q [m p5 p0,m p6 p1,m p7 p1,O p8 (.build [(.bool false),v0,v0,.nilFunc,v0,v0] [(0,1,t5),(1,1,t6),(2,1,t7),(3,1,(C (.func 234 [] []))),(4,1,i0),(5,1,i0)]),s 6 p4 p8] .ret))
def aaO:aG:=.code 24 [.tmp p2] (q [bS p2] (S (q [m p3 p0] (Bl 0 (S (q [K2 p5 p3 110 101 103,m p4 p5] (H t4 .skip (q [K2 p6 p3 110 111 116,m p4 p6] (H t4 .skip (q [K7 p7 p3 115 105 122 101,m p4 p7] (H t4 .skip (q [K7 p8 p3 115 104 111 119,m p4 p8] (H t4 .skip (r [K7 p9 p3 114 101 97 100,m p4 p9]))))))))) (H t4 (q [k p2 1] .ret) (S (q [O aR (.iE .eql t3 (C (.str [97,100,100]))),m aO aR] (H fA .skip (q [K2 aY p3 115 117 98,m aO aY] (H fA .skip (q [K2 aX p3 109 117 108,m aO aX] (H fA .skip (q [K2 bi p3 100 105 118,m aO bi] (H fA .skip (q [K2 bk p3 109 111 100,m aO bk] (H fA .skip (q [vi bo p3 108 116,m aO bo] (H fA .skip (q [vi aZ p3 108 101,m aO aZ] (H fA .skip (q [vi br p3 101 113,m aO br] (H fA .skip (q [K7 bJ p3 106 111 105 110,m aO bJ] (H fA .skip (q [K7 bN p3 98 121 116 101,m aO bN] (H fA .skip (r [K7 bR p3 115 97 109 101,m aO bR]))))))))))))))))))))) (H fA (q [k p2 2] .ret) (q [K2 bL p3 99 117 116,m bO bL] (H mG (q [k p2 3] .ret) .skip)))))))) (q [bS p2] .ret)))
def aaP:aG:=.code 9 [.tmp p4] (q [b p3 297 p1,f p4] (q [m p5 p0,pb p6 249 p3,c p7 248 [t5,t6],no p8 p7,m p4 p8] .ret))
def aaQ:aG:=.code 64 [.tmp p2] (q [b p1 292 p0,f p2] (S (q (eP p3 p1 p4 []) (Bl 0 (q (cK p6 4 p4 0 p5 []) (H t5 (q [ld p7 3 p1,O p8 (.build [(i 4 0),v0,(.str [])] []),O p9 (.eq false (.fi [(0,1,false,.int),(1,1,false,.int),(2,1,false,.str)]) t7 t8),m p2 p9] .ret) (q (cK aR 4 p4 1 aO []) (H fA (q (a aY 1 p1::l aX aY::c bi 250 [kQ]::m bk bi::ey bo 2 p1 bk aZ [G br (.iE .eql jF (C (.str []))) bk true,y bJ bk br,m p2 bJ]) .ret) (q (cK bR 4 p4 2 bN []) (H kR (q (a bO 1 p1::l bL bO::qp bK bL::c bT 251 [i0,i1,qj]::m ch bT::ey bY 2 p1 ch ct [G cz (.iE .eql t28 (C (.str []))) ch true,y b7 ch cz,m p2 b7]) .ret) (q (cK cV 4 p4 3 cW []) (H n6 (q (a cH 1 p1::l di cH::e cD di 0::m bZ cD::ey dl 2 p1 bZ dh [Cp du 252 dh bZ,y dw bZ du,m p2 dw]) .ret) (q [O da (.arith .eql 4 t4 (I 4 4)),m dg da] (H pD (q (a dj 1 p1::l dq dj::e dA dq 0::m dt dA::ey cJ 2 p1 dt dB [Cp dH 253 dB dt,y dX dt dH,m p2 dX]) .ret) .skip)))))))))))) (q (eP dM p1 dk (cK cR 4 dk 5 dY (ey dZ 1 p1 dY dR (G eM (.arith .geq 3 Ay i0) dY true::y d9 dY eM::m eI d9::ey eN 2 p1 eI eg [G ep (.iE .eql Az (C (.str []))) eI true,y fy eI ep,m p2 fy])))) .ret)))
def aaR:aG:=.code 83 [.tmp p4] (q [f p4] (q [m p8 p1,O p9 (.buildSlice 5 2 [(i 4 0)] [(0,1,(I 4 1)),(1,1,(I 4 1))]),c aO 254 [t8,t9],m aR p1,O aY (.buildSlice 5 2 [(i 4 0)] [(0,1,(I 4 3)),(1,1,(I 4 3))]),c aX 254 [kD,kn],m bi p1,O bk (.buildSlice 5 2 [(i 4 0)] [(0,1,(I 4 2)),(1,1,(I 4 2))]),c bo 254 [jX,ma],m p5 aO,m p6 aX,m p7 bo] (S (q [m aZ p0] (Bl 0 (S (q [O bJ (.iE .eql jF (C (.str [97,100,100]))),m br bJ] (H jG .skip (q [K2 bN aZ 115 117 98,m br bN] (H jG .skip (q [K2 bR aZ 109 117 108,m br bR] (H jG .skip (q [K2 bO aZ 100 105 118,m br bO] (H jG .skip (r [K2 bL aZ 109 111 100,m br bL]))))))))) (H jG (q [m bK p5,m p4 bK] .ret) (S (q [vi ch aZ 108 116,m bT ch] (H tF .skip (r [vi bY aZ 108 101,m bT bY]))) (H tF (q [m ct p5,m cz ct,d8 b7 p6 cz,o cW cz b7,m p4 cW] .ret) (q [vi cH aZ 101 113,m cV cH] (H tG (q [m di p5,m cD di,d8 bZ p6 cD,o dl cD bZ,m dh dl,d8 du p7 dh,o dw dh du,m p4 dw] .ret) (q [K2 da aZ 110 101 103,m dg da] (H pD (q [m dj p1,O dq (.buildSlice 5 1 [(i 4 0)] [(0,1,(I 4 1))]),c dA 254 [uY,ql],m p4 dA] .ret) (q [K2 cJ aZ 110 111 116,m dt cJ] (H t46 (q [m dB p1,O dH (.buildSlice 5 1 [(i 4 0)] [(0,1,(I 4 2))]),c dX 254 [si,u6],m p4 dX] .ret) (S (q [K7 dk aZ 115 105 122 101,m dM dk] (H t51 .skip (r [K7 cR aZ 114 101 97 100,m dM cR]))) (H t51 (q [m dY p1,O dZ (.buildSlice 5 1 [(i 4 0)] [(0,1,(I 4 3))]),c dR 254 [tL,yA],m p4 dR] .ret) (q [K7 d9 aZ 115 104 111 119,m eM d9] (H u9 (q [m eI p1,O eN (.buildSlice 5 1 [(i 4 0)] [(0,1,(I 4 1))]),c eg 254 [wH,vc],m ep eg,d8 fy p1 ep,G fS (.buildSlice 5 1 [(i 4 0)] [(0,1,(I 4 2))]) ep false,vh fg 254 fy fS ep,o eO ep fg,m p4 eO] .ret) (q [K7 eJ aZ 106 111 105 110,m gp eJ] (H AC (q [m fJ p6,m p4 fJ] .ret) (q [K7 gf aZ 98 121 116 101,m fU gf] (H tP (q [m fK p1,O eR (.buildSlice 5 2 [(i 4 0)] [(0,1,(I 4 3)),(1,1,(I 4 1))]),c fV 254 [wI,AG],m p4 fV] .ret) (q [K2 fL aZ 99 117 116,m ff fL] (H AI (q [m fW p1,O ie (.buildSlice 5 3 [(i 4 0)] [(0,1,(I 4 3)),(1,1,(I 4 1)),(2,1,(I 4 1))]),c fM 254 [AJ,AL],m p4 fM] .ret) .skip)))))))))))))))))))))) (q [m iq p1,O iB (.buildSlice 5 2 [(i 4 0)] [(0,1,(I 4 5)),(1,1,(I 4 5))]),c ir 254 [Cl,AM],m p4 ir] .ret))))
def aaS:aG:=.code 13 [.tmp p2] (q [f p2] (q [m p3 p0,O p4 (.arith .lss 2 t3 (I 2 32)),m p5 p4,d8 p6 p0 p5,og p7 2 p6 126 p5,o p8 p5 p7,m p9 p8,K8 aO p0 p9,G aR (.arith .neq 2 fA (I 2 10)) p9 true,y aY p9 aR,m p2 aY] .ret))
def aaT:aG:=.code 9 [.tmp p4] (q [f p4] (q [m p5 p0,m p6 p1,c p7 263 [t5,t6],qq p8 p7,m p4 p8] .ret))
def aaU:aG:=.code 8 [.tmp p3] (q [b p2 292 p0,f p3] (q [l p4 p1,ld p5 3 p2,lL p6 p4 p5,no p7 p6,m p3 p7] .ret))
def aaV:aG:=.code 27 [.tmp p4] (q [f p4] (S (q [m p7 p0,z p8 p7,m p9 p1,z aO p9,tT aR p8 aO] (H kD (q [f p4] .ret) .skip)) (S (q [m aY p0,z aX aY,bS bi] (Bl 0 (Lp (q [u bk bi aX] (S (H ma .skip (X 0)) (S (Bl 1 (q [m bo bi,x aZ 3 aY bi,ld br 3 aZ,O p6 (.alloc 292 [(i 4 0),v0,(.str [])]),m p5 bo,s 3 p6 br] (q (eP bJ p6 bN (jH bR p1 bO p5 bL bK [O bT (.arith .neq 4 kR qj)])) (H tF (q [f p4] .ret) .skip)))) (r (gu ch bi [])))))))) (q [kC p4] .ret))))
def aaW:aG:=.code 19 [.tmp p4] (q [bS p4] (S (q [m p6 p0,z p7 p6,bS p8] (Bl 0 (Lp (q [u p9 p8 p7] (S (H t9 .skip (X 0)) (S (Bl 1 (q [m aO p8,m p5 aO] (q [m aR p1,m aY p0,m aX p5,x bi 3 aY aX,ld bk 3 bi,lL bo aR bk] (H jE (q [m aZ p5,m p4 aZ] .ret) .skip)))) (r (gu br p8 [])))))))) (q [O p4 (.bg (J 3 0))] .ret)))
structure Tb(ac:Nat->aG):Prop where
 aaX:ac 8=Yz
 aaY:ac 9=YA
 aaZ:ac 11=YB
 aa0:ac 13=YC
 aa1:ac 18=YD
 aa2:ac 21=YE
 aa3:ac 22=YG
 aa4:ac 23=YH
 aa5:ac 26=YI
 aa6:ac 28=YJ
 aa7:ac 29=YK
 aa8:ac 33=YL
 aa9:ac 34=YM
 aba:ac 35=YO
 abb:ac 37=YP
 abc:ac 39=YQ
 abd:ac 40=YR
 abe:ac 41=YS
 abf:ac 42=YT
 abg:ac 45=YU
 abh:ac 50=YV
 abi:ac 51=YW
 abj:ac 52=YX
 abk:ac 53=YY
 abl:ac 55=YZ
 abm:ac 56=Y0
 abn:ac 57=Y1
 abo:ac 59=Y2
 abp:ac 60=Y3
 abq:ac 61=Y4
 IT:ac 68=Y5
 abr:ac 73=Y6
 abs:ac 74=Y7
 abt:ac 75=Y8
 abu:ac 77=Y9
 abv:ac 78=Y'
 abw:ac 79=Za
 abx:ac 80=Zb
 aby:ac 82=Zc
 abz:ac 83=Zd
 abA:ac 84=Ze
 abB:ac 85=Zf
 abC:ac 88=Zg
 abD:ac 89=Zh
 abE:ac 91=Zi
 abF:ac 92=Zj
 abG:ac 93=Zk
 IU:ac 96=Zl
 abH:ac 113=Zm
 abI:ac 114=Zn
 abJ:ac 115=Zo
 abK:ac 116=Zp
 abL:ac 117=Zq
 abM:ac 118=Zr
 abN:ac 119=Zs
 abO:ac 120=Zt
 abP:ac 121=Zu
 abQ:ac 122=Zv
 abR:ac 124=Zw
 abS:ac 125=Zx
 abT:ac 126=Zy
 abU:ac 127=Zz
 abV:ac 128=ZA
 abW:ac 129=ZB
 abX:ac 131=ZC
 abY:ac 132=ZD
 abZ:ac 133=ZE
 ab0:ac 134=ZF
 ab1:ac 140=ZG
 Ox:ac 141=ZH
 ab2:ac 142=ZI
 ab3:ac 143=ZJ
 ab4:ac 144=ZK
 ab5:ac 145=ZL
 ab6:ac 146=ZM
 ab7:ac 147=ZN
 ab8:ac 149=ZO
 ab9:ac 151=ZP
 aca:ac 171=ZQ
 acb:ac 172=ZR
 acd:ac 173=ZS
 ace:ac 174=ZT
 acf:ac 175=ZU
 acg:ac 176=ZV
 ach:ac 177=ZW
 aci:ac 178=ZX
 acj:ac 179=ZY
 ack:ac 180=ZZ
 acl:ac 181=Z0
 acm:ac 182=Z1
 acn:ac 191=Z2
 aco:ac 192=Z3
 Oy:ac 193=Z4
 acp:ac 194=Z5
 acq:ac 195=Z6
 acr:ac 196=Z7
 acs:ac 197=Z8
 act:ac 198=Z9
 acu:ac 199=Z'
 acv:ac 200=aaa
 acw:ac 201=aab
 acx:ac 202=aac
 acy:ac 203=aad
 acz:ac 204=aae
 acA:ac 205=aaf
 acB:ac 206=aag
 acC:ac 207=aah
 acD:ac 208=aai
 acE:ac 209=aaj
 acF:ac 210=aak
 acG:ac 211=aal
 acH:ac 214=aam
 acI:ac 215=aan
 Oz:ac 216=aao
 acJ:ac 217=aap
 acK:ac 218=aaq
 acL:ac 219=aar
 acM:ac 220=aas
 acN:ac 221=aat
 acO:ac 222=aau
 acP:ac 223=aav
 acQ:ac 224=aaw
 acR:ac 225=aax
 acS:ac 226=aay
 acT:ac 227=aaz
 acU:ac 228=aaA
 acV:ac 229=aaB
 acW:ac 230=aaC
 acX:ac 231=aaD
 acY:ac 232=aaE
 acZ:ac 233=aaF
 ac0:ac 234=aaG
 ac1:ac 235=aaH
 ac2:ac 236=aaI
 ac3:ac 237=aaJ
 ac4:ac 238=aaK
 ac5:ac 239=aaL
 ac6:ac 240=aaM
 ac7:ac 241=aaN
 ac8:ac 242=aaO
 ac9:ac 243=aaP
 ada:ac 244=aaQ
 adb:ac 245=aaR
 adc:ac 247=aaS
 ade:ac 248=aaT
 adf:ac 249=aaU
 adg:ac 254=aaV
 adh:ac 263=aaW
 IV:ac 38=.ix xP
 adi:ac 148=.ix xQ
 aj0:ac 1001=.ez uQ
 adj:ac 1002=.ez xN
 adk:ac 1003=.ez xM
 adl:ac 1004=.ez (BY 178)
 adm:ac 1005=.ez (BZ 178)
end Go.am.R
namespace Go.am.R
section
variable{ac:Nat->aG}{b σ:Type}
def vn(agg:Bool)(cs:List AV):AV:=if agg then .agg cs else cs.headD .alR
def Cs(size:Nat)(agg:Bool)(x:aJ):bW:=if agg then .gw size x else .aW x
theorem RO.OA{c:Cx}{l:List be}{s:List SI}{L:Kn}{H:ai}{d:Option ab}{size o:Nat}{agg:Bool}{cs:List AV}{q:ab}{x:aJ}(hc:cs.length=size)(h1:agg=false->size=1)(hat:∀t v,cs[t]?=some v->bh H q (o+t)=some v)(hrd:fE H q o size=some cs)(h:RO ac c l s (bC L d (vn agg cs)) H)(hx:bf L x=.az q o:=by exact cw):RO ac c (⟨d,Cs size agg x,none,[],[]⟩::l) s L H:=by
 cases agg with
 |true=>exact RO.gw h (hx:=hx) (hc:=hrd)
 |false=>
  have:=h1 rfl;subst this;obtain⟨v,rfl⟩:∃v,cs=[v]:=by match cs,hc with|[v],_=>exact⟨v,rfl⟩
  exact RO.aW h (hx:=hx) (hc:=hat 0 v rfl)
def ri(ac:Nat->aG)(A:ai)(fv:AV)(R:ai->b->List AV->Prop)(agg:Bool)(T:σ->List Th)(I:σ->Prop)(st:σ->b->Bool×σ)(la:List b):Prop:=
 ∀s a cs H us,a∈la->I s->R A a cs->aj A H (T s++us)->YF ac fv [vn agg cs] H λv H'=>v=.bool (st s a).1/\I (st s a).2/\∃c,aj A H' (T (st s a).2++c++us)
def ou(st:σ->b->Bool×σ):σ->List b->Nat->Option Nat×σ
 |s,[],_=>(none,s)
 |s,a::l,k=>if(st s a).1 then(some k,(st s a).2)else ou st (st s a).2 l (k+1)
def gW(st:σ->b->Bool×σ):σ->List b->Bool×σ
 |s,[]=>(true,s)
 |s,a::l=>if(st s a).1 then gW st (st s a).2 l else(false,(st s a).2)
theorem OB(st:σ->b->Bool×σ):∀(l:List b)(s:σ)(k:Nat),((ou (λs a=>(!(st s a).1,(st s a).2)) s l k).1.isSome=!(gW st s l).1)/\(ou (λs a=>(!(st s a).1,(st s a).2)) s l k).2=(gW st s l).2
 |[],s,k=>by simp[ou,gW]
 |a::l,s,k=>by
  simp only[ou,gW];cases h:(st s a).1;·simp
  simpa using OB st l (st s a).2 (k+1)
def OC:Option Nat->AV
 |some k=>aN k
 |none=>.int 3 (.negSucc 0)
theorem adn(o:Option Nat):∃z,OC o=aI z/\decide (0<=z)=o.isSome:=by cases o with|none=>exact⟨-1,rfl,rfl⟩|some k=>exact⟨.ofNat k,rfl,aB⟩
def IW(ld:bW)(size:Nat):bt:=(.seq (.region [O p4 (.bg (I 3 0))]) (.seq (.seq (.region [O p6 (.bg (T p0)),O p7 (.j7 (T p6)),O p8 (.bg (I 3 0))]) (.block 0 (.loop (.seq (.region [O p9 (.arith .lss 3 (T p8) (T p7))]) (.seq (.cond (T p9) .skip (.exit 0)) (.seq (.block 1 (.seq (.region [O aO (.bg (T p8)),O p5 (.bg (T aO))]) (.seq (.region [O aR (.bg (T p1)),O aY (.bg (T p0)),O aX (.bg (T p5)),O bi (.dG size (T aY) (T aX)),O bk ld,O bo (.call (T aR) [(T bk)])]) (.cond (T bo) (.seq (.region [O aZ (.bg (T p5)),O p4 (.bg (T aZ))]) .ret) .skip)))) (.region [O br (.arith .add 3 (T p8) (I 3 1)),O p8 (.bg (T br))]))))))) (.seq (.region [O p4 (.bg (J 3 0))]) .ret)))
theorem ado{f p size:Nat}{agg:Bool}(u:ac f=.code p [.tmp p4] (IW (Cs size agg (am.T bi)) size))(B:2<=p)(h1:agg=false->size=1){A H:ai}{fv sv:AV}{R:ai->b->List AV->Prop}{T:σ->List Th}{I:σ->Prop}{st:σ->b->Bool×σ}{la:List b}{s:σ}{us:List Th}(C:fv.bB=true)(o:ri ac A fv R agg T I st la)(w:∀a cs,R A a cs->(vn agg cs).bB=true)(hs:dV size R A la sv)(hl:la.length<=1000000)(m:I s)(U:aj A H (T s++us)){K:KT}(q:∀H' d,I (ou st s la 0).2->aj A H' (T (ou st s la 0).2++d++us)->K (OC (ou st s la 0).1) H'):YN ac f [sv,fv] H K:=by
 have⟨hd,_,_,E⟩:=hs.all;refine YF.code u (by simp;omega) ?_;refine au ?_;refine Ru.nm λS M x r=>?_;refine Ru.cC r (up (P:=λk=>∀g h,ou st h (la.drop k) k=ou st s la 0->I h->(∃d,aj A g (T h++d++us))->Ru ac _ S ([(p8,aN k)]++pk M [p0,p1,p7]) g) la.length (λk F y g h c m U=>?_) 0 af _ s rfl m ⟨[],by simpa using U⟩);subst x;subst r;refine Ru.loop ?_;refine au ?_;refine Ru.cond (λe=>?_) (λe=>?_)
 .rw[aj9 e]at c;simp only[ou]at c;obtain⟨d,U⟩:=U;refine au ?_;refine RO.cZ U.gr hs λG o1 cs hj t z hat hrd=>?_;have D:=w _ _ t;refine RO.OA z h1 hat hrd ?_;refine RO.cl ((o h la[k] cs g (d++us) (agB e) m t (by simpa using U)).mono ?_);rintro v H'⟨rfl,i,j,l⟩;refine au ?_;refine Ru.kN (λn=>?_) (λn=>?_);·rw[n]at c;simp only[bq]at c;refine au ?_;refine Ru.aV ?_;have:=q H' (j++d) (by rw[<-c];exact i) (by rw[<-c];simpa using l);rw[<-c]at this;exact this
  rw[n]at c;simp only[aes,bP]at c;refine au ?_;exact Ru.wk (y (k+1) af af H' _ c i ⟨j++d,by simpa using l⟩)
 rw[List.drop_of_length_le af]at c;simp only[ou]at c;obtain⟨d,U⟩:=U;refine Ru.exitTo ?_;refine au ?_;refine Ru.aV ?_;have:=q g d (by rw[<-c];exact m) (by rw[<-c];exact U);rw[<-c]at this;exact this
def OD(g:Nat):bt:=(.seq (.region [O p4 (.bg (C (.bool false)))]) (.seq (.region [O p5 (.bg (T p0)),O p6 (.bg (T p1)),O p7 (.call (C (.func g [] [])) [(T p5),(T p6)]),O p8 (.arith .geq 3 (T p7) (I 3 0)),O p4 (.bg (T p8))]) .ret))
def adp(e cl a:Nat):bt:=(.seq (.region [O p3 (.box e (T p1)),O p4 (.bg (C (.bool false)))]) (.seq (.region [O p5 (.bg (T p0)),O p6 (.iP cl [] [(T p3)]),O p7 (.call (C (.func a [] [])) [(T p5),(T p6)]),O p8 (.unary .not (T p7)),O p4 (.bg (T p8))]) .ret))
def adq:bt:=(.seq (.region [O p3 (.bg (C (.bool false)))]) (.seq (.region [O p4 (.aW (T p1)),O p5 (.bg (T p0)),O p6 (.call (T p4) [(T p5)]),O p7 (.unary .not (T p6)),O p3 (.bg (T p7))]) .ret))
def adr(t n:Nat):bt:=(.seq (.region [O p2 (.box t (T p0)),O p3 (.bg (C (.bool false)))]) (.seq (.region [O p4 (.aW (T p1)),O p5 (.gw n (T p2)),O p6 (.call (T p4) [(T p5)]),O p7 (.unary .not (T p6)),O p3 (.bg (T p7))]) .ret))
section
variable{A H:ai}{fv sv:AV}{R:ai->b->List AV->Prop}{T:σ->List Th}{I:σ->Prop}{st:σ->b->Bool×σ}{la:List b}{s:σ}{us:List Th}
theorem ads{f g k mt size:Nat}{agg:Bool}(l:ac f=.code mt [.tmp p4] (OD g))(p:2<=mt)(hg:ac g=.code k [.tmp p4] (IW (Cs size agg (am.T bi)) size))(d:2<=k)(h1:agg=false->size=1)(e:fv.bB=true)(h:ri ac A fv R agg T I st la)(m:∀a cs,R A a cs->(vn agg cs).bB=true)(hs:dV size R A la sv)(hl:la.length<=1000000)(n:I s)(U:aj A H (T s++us)){K:KT}(o:∀H' c,I (ou st s la 0).2->aj A H' (T (ou st s la 0).2++c++us)->K (.bool (ou st s la 0).1.isSome) H'):YN ac f [sv,fv] H K:=by have⟨hd,_,_,q⟩:=hs.all;refine YF.code l (by simp;omega) ?_;refine au ?_;refine RO.cl (ado hg d h1 e h m hs hl n U λH' c i j=>?_);obtain⟨z,e1,e2⟩:=adn (ou st s la 0).1;rw[e1];refine RO.geq (b:=0) ?_;rw[e2];refine au ?_;exact Ru.aV (o H' c i j)
theorem Ct{f g h p mt r size e cl:Nat}{agg:Bool}(t:ac f=.code r [.tmp p4] (adp e cl g))(y:2<=r)(hg:ac g=.code mt [.tmp p4] (OD h))(l:2<=mt)(u:ac h=.code p [.tmp p4] (IW (Cs size agg (am.T bi)) size))(m:2<=p)(h1:agg=false->size=1)(z:fv.bB=true)(n:fv.ee=true)(c:fv.cells=[fv])(o:∀q,ri ac A (.func cl [] [.az q 0]) R agg (λs=>tB e q [fv]::T s) I (λs a=>(!(st s a).1,(st s a).2)) la)(v:∀a cs,R A a cs->(vn agg cs).bB=true)(hs:dV size R A la sv)(hl:la.length<=1000000)(w:I s)(U:aj A H (T s++us)){K:KT}(x:∀H' k,I (gW st s la).2->aj A H' (T (gW st s la).2++k++us)->K (.bool (gW st s la).1) H'):YN ac f [sv,fv] H K:=by have⟨hd,_,_,B⟩:=hs.all;obtain⟨e1,e2⟩:=OB st la s 0;refine YF.code t (by simp;omega) ?_;refine au ?_;refine RO.dL U (λH1 q d=>?_) (ho:=by rw[c];exact ao n rfl);rw[c]at d;refine au ?_;refine RO.cl (ads hg l u m h1 rfl (o q) v hs hl w d λH' k i j=>?_);rw[e1];refine au ?_;rw[e2]at i j;refine Ru.aV ?_;rw[Bool.not_not];exact x H' k i j.tail
theorem IX{cl h e:Nat}(j:ac cl=.code h [.tmp p3] adq)(n:2<=h)(o:fv.bB=true)(k:∀a cs,R A a cs->(vn false cs).bB=true)(c:ri ac A fv R false T I st la)(q:ab):ri ac A (.func cl [] [.az q 0]) R false (λs=>tB e q [fv]::T s) I (λs a=>(!(st s a).1,(st s a).2)) la:=by intro s a cs H us l m i U;have p:=k a cs i;refine YF.code j (by simp;omega) ?_;refine bD ?_;refine RO.cl ((c s a cs H (tB e q [fv]::us) l m i U.Ej).mono ?_);rintro v H'⟨rfl,d,f,g⟩;refine bD ?_;exact Ru.aV ⟨rfl,d,f,by have:=g.wy;simpa using this⟩
theorem OE{cl j e t n:Nat}(m:ac cl=.code j [.tmp p3] (adr t n))(r:2<=j)(u:fv.bB=true)(o:∀a cs,R A a cs->cs.length=n/\dS cs=true)(f:ri ac A fv R true T I st la)(q:ab):ri ac A (.func cl [] [.az q 0]) R true (λs=>tB e q [fv]::T s) I (λs a=>(!(st s a).1,(st s a).2)) la:=by intro s a cs H us hm p k U;obtain⟨c,l⟩:=o a cs k;refine YF.code m (by simp;omega) ?_;refine au ?_;refine RO.dL U (λH1 d U=>?_) (v:=.agg cs);refine au ?_;refine RO.gU U 1 ?_;refine RO.eQ U 0 (m:=n) ?_ (hm:=by show 0+n<=cs.length;omega);rw[show((AV.agg cs).cells.drop 0).take n=cs by show(cs.drop 0).take n=cs;rw[List.drop_zero,<-c,ak7]];refine RO.cl ((f s a cs H1 (tB t d cs::tB e q [fv]::us) hm p k (aj.gF (xs:=[tB t d cs,tB e q [fv]]) U)).mono ?_);rintro v H'⟨rfl,g,h,i⟩;refine bD ?_;exact Ru.aV ⟨rfl,g,h,by have:=(aj.kO (xs:=[tB t d cs,tB e q [fv]]) i).tail;simpa using this⟩
end
end
end Go.am.R
namespace Go.am
section
def tX(q:ab)(o:cq):Th where
 P H a:=q∈a/\(∀j∈a,j=q)/\H.get q=o/\q.an<H.next.an
 fr h b hg:=⟨h.1,h.2.1,by rw[hg _ h.1];exact h.2.2.1,ako h.2.2.2 b⟩
 lt h:=by intro j hj;rw[h.2.1 j hj];exact h.2.2.2
variable{A H H':ai}{ts us:List Th}{q:ab}{o o':cq}
variable{ac:Nat->aG}{c:Cx}{s:List SI}{L:Kn}{d:Option ab}{l:List be}
theorem aj.AQ(U:aj A H ts)(o:cq):aj A (H.new o) (tX H.next o::ts):=U.push (fp:=[H.next]) (bm.new H o) ⟨aep.2 rfl,λj hj=>aep.1 hj,by rw[ai.dJ,aK rfl],by rw[ai.nK];omega⟩ (uU H)
theorem aj.tV(U:aj A H ts)(i:Nat)(hi:ts[i]?=some (tX q o))(o':cq):aj A (H.set q o') (ts.set i (tX q o')):=by
 obtain⟨b,a,_,hu⟩:=U.ki i hi;refine hu (fp':=[q]) ⟨Nat.le_of_eq (by rw[ai.gD]),λj hj=>?_,λj hj c=>?_⟩ ⟨aep.2 rfl,λj hj=>aep.1 hj,by rw[ai.aF,aK rfl],by exact a.2.2.2⟩;·rw[aep]at hj;subst hj;exact .inl a.1
 rw[ai.aF,aq λe:j=q=>hj (by rw[e];exact a.1)]
theorem aj.rj(U:aj A H ts)(i:Nat)(hi:ts[i]?=some (tX q o)):H.get q=o:=by obtain⟨b,a⟩:=U.get i hi;exact a.2.2.1
theorem RO.rF(U:aj A H ts){x:aJ}{t:List Nat}(h:∀H' q,aj A H' (tX q (.pf t t 0)::ts)->RO ac c l s (bC L d (.az q 0)) H')(b:bf L x=.str t:=by exact cw):RO ac c (⟨d,.rF x,none,[],[]⟩::l) s L H:=RO.op (λaa a=>by simp only[aE,a.gv b rfl]) (h _ _ (U.AQ _))
theorem RO.adt(U:aj A H ts)(i:Nat){x:aJ}{t:List Nat}{k:Nat}(h:RO ac c l s (bC L d (.tuple [.bool false])) H)(hi:ts[i]?=some (tX q (.pf t [] k)):=by rfl)(b:bf L x=.az q 0:=by exact cw):RO ac c (⟨d,.vJ x,none,[],[]⟩::l) s L H:=RO.op (λaa a=>by simp only[aE,a.gv b rfl,U.rj i hi]) h
theorem RO.adu(U:aj A H ts)(i:Nat){x:aJ}{t r:List Nat}{k b:Nat}(hb:b<128)(h:∀H',aj A H' (ts.set i (tX q (.pf t r (k+1))))->RO ac c l s (bC L d (.tuple [.bool true,.int 3 (.ofNat k),.int 2 (.ofNat b)])) H')(hi:ts[i]?=some (tX q (.pf t (b::r) k)):=by rfl)(e:bf L x=.az q 0:=by exact cw):RO ac c (⟨d,.vJ x,none,[],[]⟩::l) s L H:=RO.op (λaa a=>by simp only[aE,a.gv e rfl,U.rj i hi,show akv b 128=true from alN akY hb,bq]) (h _ (U.tV i hi _))
theorem RO.adv(U:aj A H ts)(h:∀H' q,aj A H' (tX q (.map [] 0)::ts)->RO ac c l s (bC L d (.map q)) H'):RO ac c (⟨d,.jK,none,[],[]⟩::l) s L H:=RO.jK (h _ _ (U.AQ _))
theorem RO.adw(U:aj A H ts)(i:Nat){e:eE}{m k w:aJ}{kv v:AV}{es:List aT}{ck:Nat}(h:∀H',aj A H' (ts.set i (tX q (.map (es++[⟨kv,v,ck⟩]) (ck+1))))->RO ac c l s (bC L d .alR) H')(hi:ts[i]?=some (tX q (.map es ck)):=by rfl)(g:bf L m=.map q:=by exact cw)(j:bf L k=kv:=by exact cw)(n:bf L w=v:=by exact cw)(b:kv.bB=true:=by first|rfl|assumption)(f:v.bB=true:=by first|rfl|assumption)(o:jA e kv=true:=by rfl)(p:findKey e kv es 0=some none:=by rfl):RO ac c (⟨d,.jy e m k w,none,[],[]⟩::l) s L H:=RO.op (λaa a=>by simp only[aE,a.gv g rfl,a.gv j b,a.gv n f,o,aku,aes,bP,U.rj i hi,p]) (h _ (U.tV i hi _))
theorem RO.adx(U:aj A H ts)(i:Nat){e:eE}{z:AV}{m k:aJ}{kv:AV}{es:List aT}{ck:Nat}{r:Option (Nat×AV)}(f:findKey e kv es 0=some r)(h:RO ac c l s (bC L d (.tuple (match r with|some p=>[p.2,.bool true]|none=>[z,.bool false]))) H)(hi:ts[i]?=some (tX q (.map es ck)):=by rfl)(g:bf L m=.map q:=by exact cw)(j:bf L k=kv:=by exact cw)(b:kv.bB=true:=by first|rfl|assumption)(n:jA e kv=true:=by rfl):RO ac c (⟨d,.lookup e z true m k,none,[],[]⟩::l) s L H:=RO.op (λaa a=>by simp only[aE,a.gv g rfl,a.gv j b,n,aku,aes,bP,U.rj i hi,f,bq];grind) h
theorem il{aa:ap AV}{p:ab}{x:aJ}{i:ab}{o:Nat}{v:AV}{re:List jo}(b:Le L aa)(d:bf L x=.az i o)(f:lk L p=v)(hd:v.bB=true)(hs:iy v v=true)(a:bh H i o=some v)(g:fG aa H re=true):fG aa H (⟨p,.aW x,none⟩::re)=true:=by
 have e:jp H (.az i o) 1 false=some v:=by
  unfold bh at a;split at a
  .rename_i cc n _ _ _ _ hg;split at a;·rename_i hb;injection a with a;have c:o<n:=akY.mp hb;simp only[jp,fE,hg,iI,aK c,a,aes,bP];rfl
   cases a
  cases a
 simp only[fG,fF,bq,aE,b.gv d rfl,e,akt,b.get f hd,hs,g,alK]
theorem RO.EN{f:aJ}{args:List aJ}{fv:AV}{a:List AV}{p:ab}{x:aJ}{i:ab}{o:Nat}{v:AV}(h:YF ac fv a H λr H'=>bh H' i o=some v/\RO ac c l s (bC L d r) H')(k:∀r,bf (bC L d r) x=.az i o:=by(intro r;conv=>lhs;whnf)<;>rfl)(m:∀r,lk (bC L d r) p=v:=by(intro r;conv=>lhs;whnf)<;>rfl)(b:v.bB=true:=by first|rfl|assumption)(hvs:iy v v=true:=by first|rfl|assumption|simp[iy,gz,fQ])(n:bf L f=fv:=by exact cw)(e:fv.bB=true:=by first|rfl|assumption)(q:args.map (bf L)=a:=by rfl)(g:a.all AV.bB=true:=by repeat first|rfl|assumption|(refine ad ?_ ?_)):RO ac c (⟨d,.call f args,none,[],[⟨p,.aW x,none⟩]⟩::l) s L H:=RO.HT (h.mono λr H' h=>⟨λaa j=>il j (k r) (m r) b hvs h.1 rfl,h.2⟩) n e q g
def tW(L:Kn)(H:ai):List iW->List AV->Prop
 |[],[]=>True
 |.tmp p::a,v::b=>lk L p=v/\v.bB=true/\tW L H a b
 |.cell p agg n::a,v::b=>(∃q o,lk L p=.az q o/\jp H (.az q o) n agg=some v)/\tW L H a b
 |_,_=>False
theorem tW.yf{aa:ap AV}(a:Le L aa):∀{b:List iW}{c:List AV},tW L H b c->gZ aa H b=some c|[],[],_=>rfl|.tmp p::b,v::c,h=>by simp only[gZ,tW.yf a h.2.2,akt,a.get h.1 h.2.1]|.cell p agg n::b,v::c,h=>by obtain⟨⟨q,o,h1,h2⟩,h3⟩:=h;simp only[gZ,tW.yf a h3,a.get h1 rfl,h2]|[],_::_,h=>h.elim|.tmp _::_,[],h=>h.elim|.cell .. ::_,[],h=>h.elim
theorem RJ.ady{j:cP}{b:List iW}{K:KT}{c:List AV}(hj:j=.none\/j=.ret)(d:tW L H b c)(h:K (iL c) H):RJ ac (wt b K) j [] L H:=λaa a=>by have:=d.yf (H:=H) a;rcases hj with rfl|rfl<;>simp only[kh,pu,jN,this]<;>exact h
theorem Ru.lM{a:List iW}{K:KT}{vs:List AV}{s:List SI}(b:tW L H a vs)(h:K (iL vs) H):Ru ac (wt a K) (.code .ret::s) L H:=Ru.ret (RJ.wp (RJ.ady (.inr rfl) b h))
theorem aj.agg(U:aj A H ts)(i:Nat){e n:Nat}{a:List AV}(hi:ts[i]?=some (tB e q a):=by rfl)(b:a.length=n:=by rfl):jp H (.az q 0) n true=some (.agg a):=by subst b;obtain⟨d,c⟩:=U.get i hi;have:=tB.qQ (o:=0) (m:=a.length) c af;simp[this,jp,bq,List.drop_zero,ak7]
theorem aj.one(U:aj A H ts)(i:Nat){e:Nat}{v:AV}(hi:ts[i]?=some (tB e q [v]):=by rfl):jp H (.az q 0) 1 false=some v:=by obtain⟨b,a⟩:=U.get i hi;have:=tB.qQ (o:=0) (m:=1) a aB;simp[this,jp,aes,bP]
end
end Go.am
namespace Go.am.R
section
variable{ac:Nat->aG}
theorem IY(T:Tb ac){H:ai}{a b n:Int}{K:KT}(c:K (.bool (decide (a<=n/\n<=b))) H):YN ac NY [aI a,aI b,aI n] H K:=by
 refine YF.code T.aco aB ?_;refine au ?_;refine RO.de (λh=>?_) (λh=>?_);·refine bD ?_;refine Ru.aV ?_;simpa[h]using c
 refine bD ?_;refine Ru.aV ?_;simpa[h]using c
theorem yE(T:Tb ac){H:ai}{a b n:Int}(h:a<=n/\n<=b){K:KT}(c:K (.bool true) H):YN ac NY [aI a,aI b,aI n] H K:=IY T (by grind)
def OF(ac:Nat->aG)(fv:AV)(t:List Nat):Prop:=∀b∈t,b<128/\∀{H:ai},YF ac fv [.int 2 (.ofNat b)] H λv H'=>v=.bool false/\H'=H
theorem adz(T:Tb ac){H:ai}{fv:AV}{t:List Nat}(h:fv.bB=true)(d:OF ac fv t){K:KT}(e:∀H',bm H H'->K (aI (-1)) H'):YN ac XQ [.str t,fv,.bool true] H K:=by
 refine YF.code T.ac4 aB ?_;refine au ?_;refine RO.rF (aj.dc H) λH1 q U=>?_;refine au ?_;refine Ru.nm λS M f c=>?_;refine Ru.cC c (up (P:=λk=>∀b,aj H b [tX q (.pf t (t.drop k) k)]->Ru ac _ S ([]++pk M [p0,p1,p2,aO]) b) t.length (λk i g b U=>?_) 0 af _ U);subst f;subst c;refine Ru.loop ?_;refine au ?_;by_cases a:k<t.length;·rw[aj9 a]at U;obtain⟨h1,h2⟩:=d _ (agB a);refine RO.adu U 0 h1 λj U=>?_;refine au ?_;refine RO.cl (h2.mono ?_);rintro v l⟨rfl,rfl⟩;refine au ?_;refine RO.eq (t:=false) ?_;refine au ?_;exact Ru.wk (g (k+1) af af _ U)
 rw[List.drop_of_length_le af]at U;refine RO.adt U 0 ?_;refine au ?_;refine Ru.exitTo ?_;refine au ?_;exact Ru.aV (e _ U.gr)
theorem OG(T:Tb ac){H:ai}{fv:AV}{t:List Nat}(a:fv.bB=true)(b:OF ac fv t){K:KT}(c:∀H',bm H H'->K (.bool false) H'):YN ac XD [.str t,fv] H K:=by
 refine YF.code T.acI aB ?_;refine au ?_;have h2:YN ac XL [.str t,fv] H λv H'=>v=aI (-1)/\bm H H':=by refine YF.code T.acW aB ?_;refine au ?_;refine RO.cl (adz T a b λH' hg=>?_);refine au ?_;exact Ru.aV ⟨rfl,hg⟩
 refine RO.cl (h2.mono ?_);rintro v H'⟨rfl,hg⟩;refine RO.geq (a:= -1) (b:=0) ?_;refine au ?_;exact Ru.aV (c _ hg)
def su(t:List Nat):Prop:=1<=t.length/\t.length<=40/\∀b∈t,33<=b/\b<=126/\b≠34
def EO(t:List Nat):Prop:=t.length<=200/\∀b∈t,(32<=b/\b<=126)\/b=10
theorem IZ(T:Tb ac){H:ai}{t:List Nat}(a:su t){K:KT}(c:∀H',bm H H'->K (.bool true) H'):YN ac NX [.str t] H K:=by
 obtain⟨h1,h2,h3⟩:=a;refine YF.code T.acn aB ?_;refine au ?_;refine RO.kH ?_;refine au ?_;refine RO.cl (yE T (a:=1) (b:=40) (n:=t.length) af ?_);refine bD ?_;refine RO.cl (OG T (fv:=.func XC [] []) rfl (λb hb=>?_) λH1 hg=>?_);·obtain⟨e,f,d⟩:=h3 b hb;refine⟨af,λ{H}=>?_⟩;refine YF.code T.acH aB ?_;refine au ?_;refine RO.de (λh=>by omega) (λh=>?_);refine bD ?_;refine RO.de (λh=>by omega) (λh=>?_);refine bD ?_;refine Ru.aV ⟨?_,rfl⟩;rw[decide_eq_false d]
 refine bD ?_;exact Ru.aV (c _ hg)
theorem adA(T:Tb ac){H:ai}{t:List Nat}(a:EO t){K:KT}(c:∀H',bm H H'->K (.bool true) H'):YN ac N4 [.str t] H K:=by
 obtain⟨h1,h3⟩:=a;refine YF.code T.ac6 aB ?_;refine au ?_;refine RO.kH ?_;refine au ?_;refine RO.de (λh=>?_) (λh=>by simp at h;omega);refine bD ?_;refine RO.cl (OG T (fv:=.func XW [] []) rfl (λb hb=>?_) λH1 hg=>?_)
 .have d:=h3 b hb;refine⟨af,λ{H}=>?_⟩;refine YF.code T.adc aB ?_;refine au ?_;refine RO.de (λh=>?_) (λh=>?_);·refine bD ?_;refine Ru.aV ⟨?_,rfl⟩;rw[decide_eq_false af]
  refine bD ?_;refine RO.de (λh=>by omega) (λh=>?_);refine bD ?_;exact Ru.aV ⟨rfl,rfl⟩
 refine bD ?_;exact Ru.aV (c _ hg)
theorem adB(T:Tb ac){H:ai}{K:KT}(a:K (.bool true) H):YN ac N3 [.str []] H K:=by refine YF.code T.ac0 aB ?_;refine au ?_;refine RO.iE ?_;refine au ?_;exact Ru.aV a
def Cu:List (List Nat):=[[110,101,103],[110,111,116],[115,105,122,101],[115,104,111,119],[114,101,97,100]]
def Cv:List (List Nat):=[[97,100,100],[115,117,98],[109,117,108],[100,105,118],[109,111,100],[108,116],[108,101],[101,113],[106,111,105,110],[98,121,116,101],[115,97,109,101]]
def Cw:List (List Nat):=[[99,117,116]]
def iu(t:List Nat):Nat:=if t∈Cu then 1 else if t∈Cv then 2 else if t∈Cw then 3 else 0
theorem vN:∀{a b:List Nat},j8 a b=true↔a=b
 |[],[]=>by simp[j8]
 |a::l,b::m=>by
  simp only[j8,aj6,vN (a:=l) (b:=m),akn];constructor;·exact λh=>⟨aj4 h.1,h.2⟩
  exact λh=>⟨h.1▸ald a,h.2⟩
 |[],_::_=>by simp[j8]
 |_::_,[]=>by simp[j8]
theorem qv(a b:List Nat):j8 a b=decide (a=b):=by
 cases h:j8 a b;·symm;rw[decide_eq_false_iff_not];intro e;rw[vN.2 e]at h;cases h
 symm;rw[decide_eq_true_eq];exact vN.1 h
theorem RO.Ca{c:Cx}{s:List SI}{L:Kn}{H:ai}{d:Option ab}{l:List be}{x y:aJ}{a b:List Nat}(h:RO ac c l s (bC L d (.bool (decide (a=b)))) H)(e:bf L x=.str a:=by exact cw)(f:bf L y=.str b:=by exact cw):RO ac c (⟨d,.iE .eql x y,none,[],[]⟩::l) s L H:=RO.iE (v:=.bool (decide (a=b))) h e rfl f rfl (by simp only[Ba,qv])
set_option maxHeartbeats 4000000 in theorem adC(T:Tb ac){H:ai}{t:List Nat}{K:KT}(a:K (aN (iu t)) H):YN ac XT [.str t] H K:=by
 refine YF.code T.ac8 aB ?_;refine au ?_;repeat' first|refine RO.Ca (RO.de (λh=>?_) (λh=>?_))|refine RO.bg ?_|refine RO.nil ?_|refine Ru.region ?_|refine Ru.seq ?_|refine Ru.block ?_|refine Ru.skip ?_|refine Ru.aH ?_|refine Ru.pp ?_|refine Ru.nI ?_|refine Ru.aV ?_
 all_goals
  first|(subst_vars;exact a)|
   (
    have e:iu t=0:=by simp[iu,Cu,Cv,Cw, *]
    rw[e]at a;exact a)
abbrev zv:List AV:=[aU 0,aI 0,.str []]
def yF:ai->Unit->List AV->Prop:=λ_ _ cs=>cs=zv
theorem adD(T:Tb ac){H:ai}{d f:AV}{g:List Unit}{ks:List Nat}(h:dV 3 yF H g d)(i:Ie H ks f)(l:0<g.length)(h0:∀k∈ks,k≠0){K:KT}(j:∀H',bm H H'->K (.bool false) H'):YN ac N5 [d,f] H K:=by
 have⟨hd,_,_,hl⟩:=h.all;have⟨n,_,_,p⟩:=i.all;refine YF.code T.adg aB ?_;refine au ?_;refine Ru.cond (λb=>?_) (λb=>?_);·refine au ?_;exact Ru.aV (j H (bm.refl H))
 refine au ?_;refine Ru.loop ?_;refine au ?_;refine Ru.cond (λa=>?_) (λa=>absurd l a);refine au ?_;refine RO.cZ (bm.refl H) h λq o cs hj m s hat hrd=>?_;cases m;refine bD ?_;refine RO.gI (aj.dc H) λH1 t U=>?_;refine bD ?_;refine RO.iT U 0 (λu U=>?_);refine bD ?_;refine RO.lg U.gr i (λv o2 c r=>?_) (hj:=by omega);refine bD ?_;refine Ru.cond (λa=>?_) (λa=>?_);·refine bD ?_;exact Ru.aV (j _ U.gr)
 exact(a λe=>h0 _ (agB c) e.symm).elim
theorem adE(T:Tb ac){H:ai}{K:KT}(a:∀H' q,aj H H' [tB Ih q zv]->K (.bool true) H'):YN ac IB [.agg zv] H K:=by refine YF.code T.ada aB ?_;refine au ?_;refine RO.dL (aj.dc H) λH1 q U=>?_;refine bD ?_;refine RO.eQ U 0 ?_;refine bD ?_;refine RO.eq (t:=true) ?_;refine bD ?_;exact Ru.aV (a _ q U)
theorem adF(T:Tb ac){H:ai}{d:AV}{b:List Unit}(f:dV 3 yF H b d)(k:b.length<=4){K:KT}(g:∀H',bm H H'->K (.bool true) H'):YN ac XU [d,.func IB [] []] H K:=by
 have i:ri ac H (.func IB [] []) yF true (λ_:Unit=>[]) (λ_=>True) (λs _=>(true,s)) b:=by rintro s a cs H us _ _ rfl U;refine adE T λH' q c=>⟨rfl,trivial,[tB Ih q zv],by simpa using U.fC c⟩
 have e:∀(l:List Unit)s,gW (λ(s:Unit)(_:Unit)=>(true,s)) s l=(true,s):=λl=>by induction l with|nil=>intro s;rfl|cons a l j=>intro s;simpa[gW]using j s
 refine Ct T.ac9 bA T.ade bA T.adh (size:=3) (agg:=true) bA (λh=>by cases h) (st:=λs _=>(true,s)) (T:=λ_:Unit=>[]) (I:=λ_=>True) (s:=()) (us:=[]) rfl rfl rfl (OE T.adf bA rfl (λa cs h=>by cases h;exact⟨rfl,rfl⟩) i) (λa cs h=>by cases h;rfl) f af trivial (aj.dc H) λH' m _ U=>?_;rw[e];exact g H' U.gr
def nz:AV->Bool
 |.int 4 (.ofNat (_+1))=>true
 |_=>false
theorem OH:∀{a:List AV},a.all nz=true->∃ks:List Nat,a=ks.map aU/\∀k∈ks,k≠0
 |[],_=>⟨[],rfl,λ_ h=>by cases h⟩
 |w::a,h=>by
  simp only[List.all_cons,aj6]at h;obtain⟨ks,e,h2⟩:=OH h.2;have h1:=h.1;unfold nz at h1;split at h1;·rename_i k;exact⟨(k+1)::ks,by rw[e];rfl,λj hj=>(aeV.1 hj).elim (λe=>by omega) (h2 j)⟩
  cases h1
theorem RO.bsK{B:ai}{c:Cx}{s:List SI}{L:Kn}{H:ai}{d:Option ab}{l:List be}{e n:Nat}{b a:List AV}{f:List (Nat×Nat×aJ)}(i:bm B H)(h:∀v H',bm B H'->Sl H' 1 a a.length v->v.bB=true->RO ac c l s (bC L d v) H')(hl:qO L (fO b n) f=some a:=by exact cw)(j:a.length=n:=by rfl)(h1:dS a=true:=by rfl):RO ac c (⟨d,.buildSlice e n b f,none,[],[]⟩::l) s L H:=by subst j;refine RO.buildSlice ?_ hl h1;have g:dU (H.new (.cells (db a) (a.length*1) e true [] 0)) [H.next] e 1 a a.length true (.slice H.next 0 a.length a.length true):=dU.new (alt _).symm true true;rw[alt]at g;exact h _ _ (i.trans (bm.new H _)) g.sl rfl
theorem adH(T:Tb ac){B H:ai}{b c:AV}{d:List Unit}{a:List AV}(e:bm B H)(f:dV 3 yF B d b)(g:0<d.length)(i:Sl H 1 a a.length c)(h0:a.all nz=true){K:KT}(j:∀H',bm B H'->K (.bool false) H'):YN ac N5 [b,c] H K:=by obtain⟨ks,rfl,h1⟩:=OH h0;exact adD T (ks:=ks) (dQ.jU (λ_ h=>h) e f) (by simpa using i) g h1 λH' hg=>j H' (e.trans hg)
set_option maxHeartbeats 4000000 in theorem adI(T:Tb ac){H:ai}{t:List Nat}{b:AV}{c:List Unit}(d:dV 3 yF H c b)(e:0<c.length){K:KT}(f:∀H',bm H H'->K (.bool false) H'):YN ac XV [.str t,b] H K:=by
 have⟨hd,_,_,_⟩:=d.all;have a:=bm.refl H;refine YF.code T.adb aB ?_;repeat' first|refine RO.Ca (RO.de (λ_=>?_) (λ_=>?_))|refine RO.bg ?_|refine RO.nil ?_|refine RO.bsK a (λ_ _ a hs _=>?_)|(refine RO.cl (adH T a d e hs rfl λ_ a=>?_))|refine Ru.region ?_|refine Ru.seq ?_|refine Ru.block ?_|refine Ru.skip ?_|refine Ru.aH ?_|refine Ru.pp ?_|refine Ru.nI ?_|refine RO.tm ?_|refine RO.yg ?_|refine RO.Al ?_|refine RO.Am ?_|refine Ru.aV ?_
 all_goals exact f _ (by assumption)
theorem adJ(T:Tb ac){H:ai}{t:List Nat}{g:AV}{b:List Unit}(d:dV 3 yF H b g)(hl:b.length<=iu t)(h0:0<iu t){K:KT}(c:∀H',bm H H'->K (.tuple [.agg zv,.str [],aN (if b.length=iu t then 11 else 2)]) H'):YN ac XR [.str t,g] H K:=by
 have⟨hd,_,_,i⟩:=d.all;have h3:iu t<=3:=by unfold iu;split<;>(try split)<;>(try split)<;>omega
 refine YF.code T.ac5 aB ?_;refine au ?_;refine RO.gI (aj.dc H) λH1 q U=>?_;refine bD ?_;refine RO.cl (adC T ?_);refine bD ?_;refine Ru.cond (λ(h:iu t=0)=>absurd h af) (λ_=>?_);refine bD ?_;refine Ru.cond (λh=>?_) (λh=>?_);·refine bD ?_;refine RO.eQ U 0 ?_;refine RO.iT U 0 (λf U=>?_);refine bD ?_;have a:b.length≠iu t:=λe=>h (by rw[e]);rw[aq a]at c;exact Ru.lM (vs:=[_,_,_]) ⟨⟨q,0,rfl,U.agg 0⟩,rfl,rfl,rfl,rfl,trivial⟩ (c _ U.gr)
 have a:b.length=iu t:=Classical.not_not.1 h;rw[aK a]at c;refine bD ?_;refine RO.cl (adF T (dQ.jU (λ_ h=>h) U.gr d) af λf hg=>?_);have U:=U.cI hg;refine bD ?_;refine RO.cl (adI T (dQ.jU (λ_ h=>h) U.gr d) af λf hg=>?_);have U:=U.cI hg;refine bD ?_;refine RO.eQ U 0 ?_;refine RO.iT U 0 (λf U=>?_);refine bD ?_;exact Ru.lM (vs:=[_,_,_]) ⟨⟨q,0,rfl,U.agg 0⟩,rfl,rfl,rfl,rfl,trivial⟩ (c _ U.gr)
theorem adK{H:ai}{k:Nat}{a:AV}(b:k<=3)(h:Sl H 3 ((fO zv 4).take (k*3)) k a):dV 3 yF H (ahr k ()) a:=by
 refine⟨_,by simpa using h,λj hj=>?_⟩;simp only[ak9]at hj;match k,b with
  |0,_=>omega
  |1,_=>match j,hj with|0,_=>rfl
  |2,_=>match j,hj with|0,_=>rfl|1,_=>rfl
  |3,_=>match j,hj with|0,_=>rfl|1,_=>rfl|2,_=>rfl
theorem adL(T:Tb ac){H:ai}{t:List Nat}(h0:0<iu t){K:KT}(d:∀H',bm H H'->K (.tuple [aN (iu t),.bool true]) H'):YN ac XM [.str t] H K:=by
 have h3:iu t<=3:=by unfold iu;split<;>(try split)<;>(try split)<;>omega
 refine YF.code T.acY aB ?_;refine au ?_;refine RO.oT (aj.dc H) (n:=4) (λH1 q U=>?_) (hz:=rfl);refine au ?_;refine Ru.nm λS M e c=>?_;refine Ru.cC c (up (P:=λk=>∀b,aj H b [tS Ih 3 (fO zv 4) 4 true (.slice q 0 4 4 true)]->Ru ac _ S ([(aY,aN k)]++pk M [p0,p4,aO,aR]) b) (iu t) (λk f g b U=>?_) 0 af _ U);subst e;subst c;refine Ru.loop ?_;refine au ?_;refine Ru.cond (λ(i:k<4)=>?_) (λh=>absurd (show k<4 by omega) h);refine au ?_;refine RO.V2 (U.sl 0) (λj hs=>?_);have hz:=adK af hs;have hd:=hz.bB;refine au ?_;refine RO.cl (adJ T hz (by simpa using f) h0 λl hg=>?_);have U:=U.cI hg;rw[ak9];refine au ?_;refine RO.fx U (λm n U=>?_);refine au ?_;by_cases a:k=iu t;·rw[aK a];refine bD ?_;refine Ru.tk ?_;rw[a];exact d _ U.gr
 rw[aq a];refine bD ?_;exact Ru.wk (g (k+1) af af _ U.tail)
structure qy where
 vq:Bool
 EP:Int
 EQ:Int
 nm:Nat
 ER:Int
 ES:Int
def yG:Nat->AV
 |0=>.func N3 [] []
 |1=>.func NX [] []
 |_=>.func N4 [] []
def wL(r:qy):AV:=.agg [.bool r.vq,aI r.EP,aI r.EQ,yG r.nm,aI r.ER,aI r.ES]
def sw:List (Nat×qy):=[(1,⟨true,0,0,0, -1000000000,1000000000⟩),(2,⟨true,0,0,0,0,1⟩),(3,⟨true,0,0,2,0,0⟩),(4,⟨true,0,0,0,0,0⟩),(11,⟨true,0,0,1,0,0⟩),(40,⟨true,0,1073741824,1,0,0⟩),(15,⟨true,0,6,1,0,0⟩),(18,⟨true,0,6,1,0,0⟩),(37,⟨true,0,0,1,0,0⟩),(38,⟨false,1,1,1,0,0⟩),(16,⟨true,1,1,1,0,5⟩),(17,⟨false,2,2,1,0,5⟩),(23,⟨false,1,1,0,0,0⟩),(24,⟨true,0,0,0,1,8⟩),(25,⟨false,2,2,0,0,0⟩),(26,⟨true,1,1,0,0,0⟩),(31,⟨false,0,0,0,0,0⟩),(32,⟨false,1,1,0,0,0⟩),(33,⟨true,0,0,0,0,0⟩),(34,⟨false,0,0,0,0,0⟩),(35,⟨true,1,1,0,0,0⟩),(39,⟨false,0,0,0,0,0⟩),(64,⟨true,1,1,0,0,3⟩)]
def tY:Nat->List (Nat×qy)->List aT
 |_,[]=>[]
 |b,p::l=>⟨aU p.1,wL p.2,b⟩::tY (b+1) l
def Cy(op:Nat):List (Nat×qy)->Nat->Option (Nat×qy)
 |[],_=>none
 |p::l,i=>if op=p.1 then some (i,p.2)else Cy op l (i+1)
theorem I0(op:Nat):∀l b i,findKey .int (aU op) (tY b l) i=some ((Cy op l i).map λp=>(p.1,wL p.2))
 |[],_,_=>rfl
 |p::l,b,i=>by
  have e:eA 64 .int (aU op) (aU p.1)=some (decide (op=p.1)):=by
   show(if(4:Nat)=4 then some (iQ (.ofNat op) (.ofNat p.1))else none)=_;rw[aK rfl];congr 1;by_cases h:op=p.1;·simp[iQ,h]
   simp only[iQ,h,decide_false];cases hb:akb op p.1 with|false=>rfl|true=>exact absurd (aj4 hb) h
  simp only[tY,findKey,e,Cy];by_cases h:op=p.1;·grind
  simp only[h,decide_false,bP];exact I0 op l (b+1) (i+1)
theorem adM(T:Tb ac){H:ai}{b:Bool}{n:Int}{K:KT}(a:∀H',bm H H'->K (wL ⟨b,n,n,0,0,0⟩) H'):YN ac XS [.bool b,aI n] H K:=by refine YF.code T.ac7 aB ?_;refine au ?_;refine RO.gI (aj.dc H) λH1 q U=>?_;refine bD ?_;refine RO.iT U 0 (λc U=>?_);refine bD ?_;exact Ru.lM (vs:=[_]) ⟨⟨q,0,rfl,U.agg 0⟩,trivial⟩ (a _ U.gr)
theorem I1(T:Tb ac){H:ai}{b:Bool}{n m:Int}{K:KT}(a:∀H',bm H H'->K (wL ⟨b,n,m,1,0,0⟩) H'):YN ac XN [.bool b,aI n,aI m] H K:=by refine YF.code T.acZ aB ?_;refine au ?_;refine RO.gI (aj.dc H) λH1 q U=>?_;refine bD ?_;refine RO.iT U 0 (λc U=>?_);refine bD ?_;exact Ru.lM (vs:=[_]) ⟨⟨q,0,rfl,U.agg 0⟩,trivial⟩ (a _ U.gr)
theorem OI:∀(l:List (Nat×qy))(b:Nat)(p:Nat×qy),tY b (l++[p])=tY b l++[⟨aU p.1,wL p.2,b+l.length⟩]|[],_,_=>rfl|a::l,b,p=>by simp only[akV,tY,OI l (b+1) p,akA,alo,Nat.add_comm 1]
theorem RO.adN{c:Cx}{s:List SI}{L:Kn}{H A:ai}{d:Option ab}{l:List be}{q:ab}{a:List Th}{k op:Nat}{r:qy}{m w:aJ}(U:aj A H (tX q (.map (tY 0 (sw.take k)) k)::a))(b:sw[k]?=some (op,r))(h:∀H',aj A H' (tX q (.map (tY 0 (sw.take (k+1))) (k+1))::a)->RO ac c l s (bC L d .alR) H')(f:Cy op (sw.take k) 0=none:=by rfl)(g:bf L m=.map q:=by exact cw)(i:bf L w=wL r:=by exact cw):RO ac c (⟨d,.jy .int m (.c (aU op)) w,none,[],[]⟩::l) s L H:=by
 refine RO.adw U 0 (kv:=aU op) (λH' j=>h H' ?_) rfl g rfl i rfl rfl rfl (by simp[f,I0]);obtain⟨n,_⟩:=akR.1 b;have e:sw.take (k+1)=sw.take k++[(op,r)]:=by rw[List.take_add_one,b];rfl
 have e2:(sw.take k).length=k:=by rw[akF];omega
 simp_all[OI,akh]
set_option maxHeartbeats 4000000 in theorem adO(T:Tb ac){H:ai}{K:KT}(a:∀H' q,aj H H' [tX q (.map (tY 0 sw) 23)]->K (.map q) H'):YN ac XO [] H K:=by
 refine YF.code T.ac1 aB ?_;refine au ?_;refine RO.adv (aj.dc H) λH1 q U=>?_;have U:aj H H1 (tX q (.map (tY 0 (sw.take 0)) 0)::[]):=U;repeat first|refine RO.build ?_|refine RO.adN U rfl (λ_ U=>?_)|(refine RO.cl (adM T λ_ hg=>?_);have U:=U.cI hg)|(refine RO.cl (I1 T λ_ hg=>?_);have U:=U.cI hg)|refine RO.bg ?_|refine RO.nil ?_
 exact Ru.aV (a _ q U)
def yH(s:G.ic):Option qy:=
 if s.op=14 then(if 0<iu s.name then some ⟨true,iu s.name,iu s.name,1,0,0⟩else none)
 else if s.op=13 then(if s.m=1 then some ⟨true,0,6,1,0,0⟩else some ⟨true,1,7,0,0,0⟩)
 else(Cy s.op sw 0).map (·.2)
theorem adP(T:Tb ac){H:ai}{s:G.ic}{cs:List AV}(hs:qT H s cs){r:qy}(a:yH s=some r){K:KT}(d:∀H',bm H H'->K (.tuple [wL r,.bool true]) H'):YN ac XE [.agg cs] H K:=by
 have k:=hs.one;obtain⟨o,rfl,j⟩:=hs;have⟨hd,_,_,t⟩:=j.all;refine YF.code T.acL aB ?_;refine au ?_;refine RO.dL (aj.dc H) λH1 q U=>?_;refine bD ?_;refine RO.gI U λu e U=>?_;refine bD ?_;unfold yH at a;refine Ru.cond (λc=>?_) (λc=>?_)
 .rw[aK c]at a;split at a;case isFalse=>cases a
  rename_i h0;injection a with a;subst a;refine bD ?_;refine RO.cl (adL T h0 λg hg=>?_);have U:=U.cI hg;refine bD ?_;refine RO.cl (I1 T λg hg=>?_);have U:=U.cI hg;refine bD ?_;refine RO.iT U 0 (λf U=>?_);refine bD ?_;exact Ru.lM (vs:=[_,_]) ⟨⟨e,0,rfl,U.agg 0⟩,rfl,rfl,trivial⟩ (d _ U.gr)
 rw[aq c]at a;refine bD ?_;refine RO.de (λb=>?_) (λb=>?_)
 .rw[aK b]at a;refine bD ?_;refine Ru.cond (λ(h1:s.m=1)=>?_) (λ(h1:¬s.m=1)=>?_);·rw[aK h1]at a;injection a with a;subst a;refine bD ?_;refine RO.cl (I1 T λg hg=>?_);have U:=U.cI hg;refine RO.iT U 0 (λf U=>?_);refine bD ?_;exact Ru.lM (vs:=[_,_]) ⟨⟨e,0,rfl,U.agg 0⟩,rfl,rfl,trivial⟩ (d _ U.gr)
  rw[aq h1]at a;injection a with a;subst a;refine bD ?_;refine Ru.cond (λh=>?_) (λh=>absurd b h);refine bD ?_;refine RO.iT U 0 (λf U=>?_);refine bD ?_;exact Ru.lM (vs:=[_,_]) ⟨⟨e,0,rfl,U.agg 0⟩,rfl,rfl,trivial⟩ (d _ U.gr)
 rw[aq b]at a;refine bD ?_;refine Ru.cond (λh=>absurd h b) (λh=>?_);refine bD ?_;refine RO.EN (adO T λg v l=>?_);have U:=U.fC l;obtain⟨w,i⟩:=U.get 2 rfl;refine⟨tB.cell (v:=aU s.op) i rfl,?_⟩;obtain⟨p,i,rfl⟩:=aho.1 a;have n:(yG p.2.nm).ee=true:=by unfold yG;split<;>rfl
 refine RO.adx U 0 (r:=some (p.1,wL p.2)) (by have:=I0 s.op sw 0 0;rw[i]at this;exact this) ?_;refine bD ?_;refine RO.iT U 1 (λf U=>?_);refine bD ?_;refine RO.eQ U 1 ?_;refine bD ?_;refine RO.iT U 1 (λf U=>?_);refine bD ?_;exact Ru.lM (vs:=[_,_]) ⟨⟨e,0,rfl,U.agg 1⟩,rfl,rfl,trivial⟩ (d _ U.gr)
section
def fT(g:G.bu)(c:AV)(a b:ab)(n:Nat)(s:List Bool):List Th:=[tB V9 a [.str g.name,aI g.params,aI g.bp,c,.slice b 0 n n true],tS 4 1 (s.map .bool) n true (.slice b 0 n n true)]
def ET:ai->Int->List AV->Prop:=λ_ v cs=>cs=[aI v]
theorem fZ.r{H:ai}{l:List Int}{d:AV}(h:fZ H l d):dV 1 ET H l d:=⟨_,h,λk e=>by simp[e,alt,aj9,ET]⟩
def m8(g:G.bu)(s:List Bool)(v:Int):Bool×List Bool:=
 if g.params<=v/\v<=g.bp - 1 then(if s.getD v.toNat false then(false,s)else(true,s.set v.toNat true))else(false,s)
structure FV(g:G.bu)(n:Nat):Prop where
 h0:0<=g.params
 h1:g.params<=g.bp
 h2:g.bp<=6000
 h3:(n:Int)=g.bp
section
variable{g:G.bu}{c:AV}{a b:ab}{n:Nat}{A H:ai}{us:List Th}
theorem adQ(T:Tb ac)(V:FV g n){s:List Bool}(U:aj A H (fT g c a b n s++us)){v:Int}{K:KT}(d:K (.bool (decide (0<=v/\v<=g.bp - 1))) H):YF ac (.func IA [.az a 0] []) [aI v] H K:=by obtain⟨h0,h1,h2,h3⟩:=V;refine YF.code T.acM aB ?_;refine au ?_;refine RO.nilCheck ?_;refine bD ?_;refine RO.sub (a:=g.bp) (b:=1) ?_;refine bD ?_;refine RO.cl (IY T ?_);refine bD ?_;exact Ru.aV d
theorem adR(T:Tb ac)(V:FV g n)(d:List Int):ri ac A (.func IA [.az a 0] []) ET false (fT g c a b n) (λs=>s.length=n) (λs v=>(decide (0<=v/\v<=g.bp - 1),s)) d:=by rintro s v cs H us _ e rfl U;exact adQ T V U ⟨rfl,e,[],by grind⟩
theorem I3(T:Tb ac)(V:FV g n){s:List Bool}(hs:s.length=n)(U:aj A H (fT g c a b n s++us)){v:Int}{K:KT}(d:∀H',aj A H' (fT g c a b n (m8 g s v).2++us)->K (.bool (m8 g s v).1) H'):YF ac (.func Ix [.az a 0] []) [aI v] H K:=by
 unfold m8 at d;obtain⟨h0,h1,h2,h3⟩:=V;refine YF.code T.acp aB ?_;refine au ?_;refine RO.nilCheck ?_;refine bD ?_;refine RO.nilCheck ?_;refine bD ?_;refine RO.sub (a:=g.bp) (b:=1) ?_;refine bD ?_;refine RO.cl (IY T ?_);by_cases hv:g.params<=v/\v<=g.bp - 1;·simp only[aK hv]at d;rw[decide_eq_true hv];obtain⟨k,rfl⟩:∃k:Nat,v=(k:Int):=⟨v.toNat,af⟩;have e:k<s.length:=af;simp only[aj3]at d;refine bD ?_;refine RO.nilCheck ?_;refine bD ?_;refine RO.fD U 1 ?_ (hv:=qR false e);refine bD ?_;cases hg:s.getD k false with|true=>simp only[hg,bq]at d;refine bD ?_;exact Ru.aV (d H U)|false=>simp only[hg,aes,bP]at d;refine bD ?_;refine RO.nilCheck ?_;refine bD ?_;refine RO.lC U 1 true hs (λH1 U=>?_);refine bD ?_;exact Ru.aV (d H1 U)
 simp only[aq hv]at d;rw[decide_eq_false hv];refine bD ?_;exact Ru.aV (d H U)
theorem adS(T:Tb ac)(V:FV g n)(d:List Int):ri ac A (.func Ix [.az a 0] []) ET false (fT g c a b n) (λs=>s.length=n) (m8 g) d:=by rintro s v cs H us _ e rfl U;refine I3 T V e U λH' f=>⟨rfl,?_,[],by grind⟩;grind[m8]
end
end
section
def I4:Nat->List Nat->Prop
 |0,t=>t=[]
 |1,t=>su t
 |_,t=>EO t
structure wM(g:G.bu)(x:G.ic)(r:qy):Prop where
 adT:yH x=some r
 args:r.EP<=x.args.length/\x.args.length<=r.EQ
 name:I4 r.nm x.name
 num:r.ER<=x.n/\x.n<=r.ES
 xx:x.m=0\/x.op=13/\x.m=1
 pF:∀a∈x.args,0<=a/\a<=g.bp - 1
 to:r.vq=false->x.to= -1
def ow(g:G.bu)(s:List Bool)(x:G.ic):Bool×List Bool:=
 match yH x with
 |some r=>if r.vq then m8 g s x.to else(true,s)
 |none=>(false,s)
theorem adU(T:Tb ac){H:ai}{k:Nat}{t:List Nat}(h:I4 k t){K:KT}(a:∀H',bm H H'->K (.bool true) H'):YF ac (yG k) [.str t] H K:=by match k,h with|0,h=>cases h;exact adB T (a _ (bm.refl H))|1,h=>exact IZ T h a|_+2,h=>exact adA T h a
theorem I5{e σ:Type}{p:e->Bool}:∀{la:List e}{s:σ},(∀a∈la,p a=true)->gW (λs a=>(p a,s)) s la=(true,s)|[],_,_=>rfl|a::l,s,h=>by simp only[gW,h a (aeU ..),bq];exact I5 λb hb=>h b (aey _ hb)
section
variable{g:G.bu}{d:AV}{c f:ab}{n:Nat}{A H:ai}{us:List Th}
theorem EU(T:Tb ac)(V:FV g n){s:List Bool}(hs:s.length=n){la:List Int}{b:AV}(j:fZ A la b)(hl:la.length<=1000000)(k:∀a∈la,0<=a/\a<=g.bp - 1)(U:aj A H (fT g d c f n s++us)){K:KT}(m:∀H' i,aj A H' (fT g d c f n s++i++us)->K (.bool true) H'):YN ac NZ [b,.func IA [.az c 0] []] H K:=by have e:=I5 (σ:=List Bool) (p:=λv=>decide (0<=v/\v<=g.bp - 1)) (la:=la) (s:=s) (λa h=>decide_eq_true (k a h));refine Ct T.Oy aB T.IT aB T.IU (size:=1) (agg:=false) aB (λ_=>rfl) rfl rfl rfl (IX T.Oz aB rfl (λa cs h=>by cases h;rfl) (adR T V la)) (λa cs h=>by cases h;rfl) (fZ.r j) hl hs U λH' i _ l=>?_;grind
set_option maxHeartbeats 1000000 in theorem adV(T:Tb ac)(V:FV g n){s:List Bool}(hs:s.length=n){x:G.ic}{cs:List AV}(j:qT A x cs){r:qy}(y:wM g x r)(hl:x.args.length<=1000000)(U:aj A H (fT g d c f n s++us)){K:KT}(a:∀H' b,aj A H' (fT g d c f n (ow g s x).2++b++us)->K (.bool (ow g s x).1) H'):YF ac (.func Iy [.az c 0] []) [.agg cs] H K:=by
 have v:=j.one;have l:=j;obtain⟨E,rfl,e⟩:=j;have⟨hd,_,_,F⟩:=e.all;obtain⟨h1,h2,h3,z,B,t,u⟩:=y;simp only[ow,h1]at a;have i:(yG r.nm).ee=true/\(yG r.nm).bB=true:=by unfold yG;split<;>exact⟨rfl,rfl⟩
 obtain⟨i,w⟩:=i;refine YF.code T.acr aB ?_;refine au ?_;refine RO.dL U λH1 q U=>?_;refine au ?_;refine RO.eQ U 0 ?_;refine au ?_;refine RO.cl (adP T (dQ.step U.gr l) h1 λI hg=>?_);have U:=U.cI hg;refine au ?_;refine RO.fx U (λJ L U=>?_);refine bD ?_;refine RO.cl (yE T (a:=r.EP) (b:=r.EQ) (n:=x.args.length) h2 ?_);refine bD ?_;refine RO.cl (adU T h3 λM hg=>?_);have U:=U.cI hg;refine bD ?_;refine RO.cl (yE T (a:=r.ER) (b:=r.ES) (n:=x.n) z ?_);refine bD ?_;refine RO.de (λ(h:x.m≠0)=>?_) (λ(h:¬x.m≠0)=>?_)
 .obtain⟨o,p⟩:=B.resolve_left h;refine bD ?_;refine RO.de (λk=>absurd o k) (λ_=>?_);refine bD ?_;refine RO.de (λk=>absurd p k) (λ_=>?_);refine bD ?_;refine RO.cl (EU T V hs e hl t (aj.gF (xs:=[_,_]) U) λC b U=>?_);have U:=aj.kO (xs:=[_,_]) U;refine bD ?_;refine Ru.kN (λhg=>?_) (λhg=>?_);·simp only[akU]at hg;simp only[hg,aes,bP]at a;refine bD ?_;refine Ru.aV ?_;rw[show decide (x.to=Int.negSucc 0)=true from decide_eq_true (u hg)];exact a _ (b++[_,_]) (by have:=aj.gF (xs:=[_,_]) U;simpa using this)
  simp only[Bool.not_eq_false']at hg;simp only[hg,bq]at a;refine bD ?_;refine RO.cl (YF.oJ (I3 T V hs (us:=b++[_,_]++us) (by have:=aj.gF (xs:=[_,_]) U;simpa using this) λD U=>?_));refine bD ?_;exact Ru.aV (a _ (b++[_,_]) (by simpa using U))
 refine bD ?_;refine RO.cl (EU T V hs e hl t (aj.gF (xs:=[_,_]) U) λC b U=>?_);have U:=aj.kO (xs:=[_,_]) U;refine bD ?_;refine Ru.kN (λhg=>?_) (λhg=>?_);·simp only[akU]at hg;simp only[hg,aes,bP]at a;refine bD ?_;refine Ru.aV ?_;rw[show decide (x.to=Int.negSucc 0)=true from decide_eq_true (u hg)];exact a _ (b++[_,_]) (by have:=aj.gF (xs:=[_,_]) U;simpa using this)
 simp only[Bool.not_eq_false']at hg;simp only[hg,bq]at a;refine bD ?_;refine RO.cl (YF.oJ (I3 T V hs (us:=b++[_,_]++us) (by have:=aj.gF (xs:=[_,_]) U;simpa using this) λD U=>?_));refine bD ?_;exact Ru.aV (a _ (b++[_,_]) (by simpa using U))
end
end
section
structure wN(g:G.bu)(e:G.Edge)(w:Nat):Prop where
 lo:1<=e.block
 hi:e.block<g.al.length
 aM:(g.al.getD e.block.toNat default).params.length=e.args.length+w
 pF:∀a∈e.args,0<=a/\a<=g.bp - 1
section
variable{g:G.bu}{b:AV}{c d:ab}{n:Nat}{A H:ai}{us:List Th}
theorem adW(T:Tb ac)(V:FV g n)(o:G.Sm g)(hb:dV 7 kj A g.al b){s:List Bool}(hs:s.length=n){e:G.Edge}{cs:List AV}(he:sa A e cs){w:Nat}(D:w<=1)(p:wN g e w)(hl:e.args.length<=1000000)(U:aj A H (fT g b c d n s++us)){K:KT}(r:∀H' i,aj A H' (fT g b c d n s++i++us)->K (.bool true) H'):YN ac XP [.az c 0,.agg cs,aN w] H K:=by have f:=he.one;obtain⟨E,rfl,a⟩:=he;have⟨hd,_,_,F⟩:=a.all;have⟨v,_,_,x⟩:=hb.all;obtain⟨h1,h2,h3,t⟩:=p;have y:=o.nb;obtain⟨k,u⟩:∃k:Nat,e.block=(k:Int):=⟨e.block.toNat,af⟩;rw[u]at h1 h2 h3 f⊢;have j:k<g.al.length:=af;rw[aj3,bF j]at h3;refine YF.code T.ac2 aB ?_;refine au ?_;refine RO.dL U λH1 q U=>?_;refine au ?_;refine RO.nilCheck ?_;refine bD ?_;refine RO.arith (v:=aN (g.al.length - 1)) ?_ (hv:=px af af);refine bD ?_;refine RO.cl (yE T (a:=1) (b:=(g.al.length - 1:Nat)) (n:=(k:Int)) af ?_);refine bD ?_;refine RO.nilCheck ?_;refine bD ?_;refine RO.cZ U.gr hb λI o1 c1 hj l z hat hrd=>?_;obtain⟨J,L,M,rfl,m,_,_⟩:=l;have⟨B,_,_,C⟩:=m.all;refine bD ?_;refine RO.de (λ_=>?_) (λh=>absurd h3 h);refine bD ?_;refine RO.cl (EU T V hs a hl t (aj.gF (xs:=[_]) U) λN i U=>?_);refine bD ?_;exact Ru.aV (r _ (i++[_]) (by simpa using U))
theorem adX(T:Tb ac)(V:FV g n)(y:G.Sm g)(hb:dV 7 kj A g.al b){s:List Bool}(hs:s.length=n){es:List G.Edge}{t f:AV}{a:List Nat}(k7:dV 2 sa A es t)(hl:es.length=a.length)(F:es.length<=1000)(z:∀w∈a,w<=1)(B:∀k(h:k<es.length),wN g es[k] (a[k]'af)/\es[k].args.length<=1000)(U:aj A H (fT g b c d n s++tS 3 1 (a.map aN) a.length true f::us)){K:KT}(C:∀H',aj A H' (fT g b c d n s++tS 3 1 (a.map aN) a.length true f::us)->K (.bool true) H'):YN ac N1 [.az c 0,t,f] H K:=by
 have⟨I,_,_,J⟩:=k7.all;have m:Sl H 1 (a.map aN) a.length f:=U.sl 2;have⟨L,_,_,N⟩:=m.all;refine YF.code T.acN aB ?_;refine au ?_;refine Ru.cond (λh=>absurd hl af) (λ_=>?_);refine au ?_;refine Ru.nm λS M D u=>?_;refine Ru.cC u (up (P:=λk=>∀l,aj A l (fT g b c d n s++tS 3 1 (a.map aN) a.length true f::us)->Ru ac _ S ([(bo,aN k)]++pk M [p0,p1,p2,bi,bk]) l) es.length (λk R E l U=>?_) 0 af _ U);subst D;subst u;refine Ru.loop ?_;refine au ?_;refine Ru.cond (λi=>?_) (λi=>?_);·obtain⟨o,O⟩:=B k i;refine au ?_;refine RO.cZ U.gr k7 λW o1 c1 hj e P hat hrd=>?_;have v:=e.one;have j:=e;obtain⟨X,rfl,p⟩:=e;have⟨hd,_,_,Y⟩:=p.all;refine bD ?_;refine RO.gI U λH1 q U=>?_;refine bD ?_;refine RO.iT U 0 (λZ U=>?_);refine bD ?_;refine RO.eQ U 0 ?_;refine au ?_;obtain⟨wq,x,Q,rfl⟩:=U.uT 3 rfl af;refine bD ?_;refine RO.fD U 3 ?_ (hv:=qR 0 (show k<a.length by omega));refine au ?_;have r:a.getD k 0=a[k]'af:=bF af 0;rw[r];refine RO.cl (adW T V y hb hs j (z _ (agB _)) o af (aj.gF (xs:=[_]) U) λH3 gs U=>?_);refine au ?_;exact Ru.wk (E (k+1) af af _ (aj.kO (xs:=[_]) U.skip).tail)
 refine Ru.exitTo ?_;refine au ?_;exact Ru.aV (C _ U)
end
end
section
theorem RO.Eh{c:Cx}{s:List SI}{L:Kn}{H:ai}{d:Option ab}{l:List be}{x y:aJ}{a b:List Nat}(h:RO ac c l s (bC L d (.bool (decide (a≠b)))) H)(e:bf L x=.str a:=by exact cw)(g:bf L y=.str b:=by exact cw):RO ac c (⟨d,.iE .neq x y,none,[],[]⟩::l) s L H:=RO.iE (v:=.bool (decide (a≠b))) h e rfl g rfl (by simp only[Ba,qv,decide_not])
structure ua(g:G.bu)(es:List G.Edge)(ws:List Nat):Prop where
 len:es.length=ws.length
 ok:∀k(h:k<es.length),wN g es[k] (ws[k]'af)/\es[k].args.length<=1000
def vr(k:Nat):Nat:=if k=2 then 1 else 0
def mH:List Nat->Nat
 |[]=>0
 |k::l=>(3 - k)+mH l
inductive adY(g:G.bu)(j:G.lD):Prop
 |go(h:j.op=61)(ha:j.args=[])(he:ua g j.go [0])
 |Cz(h:j.op=62)(ha:j.args.length=1)(he:ua g j.go [0,0])
 |is(h:j.op=63)(ha:j.args.length=1)(hn:su j.name)(he:ua g j.go [0,0])
 |gE(h:j.op=65)(ha:j.args.length=1)(he:ua g j.go [1,0])
 |AR(h:j.op=66)(hk:∀i(h:i<j.b9.length),1<=j.b9[i]/\j.b9[i]<=3/\(j.b9[i]=3->i+1=j.b9.length))(h1:1<=j.b9.length)(h4:j.b9.length<=4)(ha:j.args.length=mH j.b9)(he:ua g j.go (j.b9.map vr))
 |CB(h:j.op=67)(ha:j.args=[])(e0 e1 e2:G.Edge)(hg:j.go=[e0,e1,e2])(h0:wN g e0 0)(h1:wN g e1 1)(h3:e0.args=[]/\e1.args=[]/\e2.args=[])(hj:1<=e2.block/\e2.block<g.al.length)(hp:0<(g.al.getD e2.block.toNat default).params.length)
 |CC(h:j.op=68)(ha:0<j.args.length)(hg:j.go=[])
 |ret(h:j.op=69\/j.op=21)(ha:j.args.length=1)(hg:j.go=[])
 |stuck(h:j.op=70)(ha:j.args=[])(hg:j.go=[])
structure I6(g:G.bu)(j:G.lD):Prop where
 pF:∀a∈j.args,0<=a/\a<=g.bp - 1
 name:j.op=63↔j.name≠ []
 b9:j.op≠66->j.b9=[]
 aA:adY g j
section
variable{g:G.bu}{f:AV}{o p:ab}{n:Nat}{A H:ai}{us:List Th}
theorem AS(T:Tb ac)(V:FV g n)(j:G.Sm g)(hb:dV 7 kj A g.al f){s:List Bool}(hs:s.length=n){es:List G.Edge}{d e:AV}{ws:List Nat}(k7:dV 2 sa A es d)(a:es.length<=1000)(k:∀w∈ws,w<=1)(h:ua g es ws){i:List AV}{m:Nat}(b:i=ws.map aN)(l:m=ws.length)(U:aj A H (tS 3 1 i m true e::(fT g f o p n s++us))){K:KT}(q:∀H',aj A H' (fT g f o p n s++us)->K (.bool true) H'):YN ac N1 [.az o 0,d,e] H K:=by subst b;subst l;exact adX T V j hb hs k7 h.len a k h.ok (aj.gF (xs:=[_]) U) λH' c=>q H' (aj.kO (xs:=[_]) c).tail
theorem adZ(T:Tb ac)(V:FV g n)(C:G.Sm g)(hb:dV 7 kj A g.al f){s:List Bool}(hs:s.length=n){m e1 e2:G.Edge}{D:AV}(k7:dV 2 sa A [m,e1,e2] D)(h0:wN g m 0)(h1:wN g e1 1)(h3:m.args=[]/\e1.args=[]/\e2.args=[])(hj:1<=e2.block/\e2.block<g.al.length)(q:0<(g.al.getD e2.block.toNat default).params.length)(U:aj A H (fT g f o p n s++us)){K:KT}(J:∀H' ws,aj A H' (fT g f o p n s++ws++us)->K (.bool true) H'):YN ac XG [.az o 0,D] H K:=by
 have⟨N,_,_,O⟩:=k7.all;have⟨P,_,_,Q⟩:=hb.all;have R:=C.nb;obtain⟨c,d,r⟩:=h3;obtain⟨k,E⟩:∃k:Nat,e2.block=(k:Int):=⟨e2.block.toNat,af⟩;rw[E]at hj q;have t:k<g.al.length:=af;rw[aj3,bF t]at q;refine YF.code T.acP aB ?_;refine au ?_;refine RO.cZ U.gr k7 (λq1 o1 c1 S a W hat hrd=>?_) (hj:=by simp);have a:sa A e2 c1:=a;have l:=a.one;obtain⟨L,rfl,u⟩:=a;rw[E]at l hrd hat;have⟨X,_,_,e⟩:=u.all;have e:lenOf L=some 0:=by simpa[r]using e
 refine bD ?_;refine RO.fx U (λH2 q2 U=>?_);refine bD ?_;refine RO.V8 k7 (λY b=>?_) (b:=2) (hb:=by simp);have⟨F,_,_,I⟩:=b.all;refine RO.lf U 1 (λH6 q6 U=>?_);refine RO.cl (AS T V C hb hs b aB (ws:=[0,1]) bA ⟨rfl,λk h=>?_⟩ rfl rfl (U.cM (akO _ akj.symm)) λH7 U=>?_);·match k,h with|0,_=>exact⟨h0,by show m.args.length<=1000;rw[c];simp⟩|1,_=>exact⟨h1,by show e1.args.length<=1000;rw[d];simp⟩
 have U:=aj.wy U;refine au ?_;refine RO.cZ U.gr k7 (λq3 o3 c3 Z v ag hat hrd=>?_) (hj:=by simp);obtain⟨v0,rfl,w⟩:=v;have⟨ar,_,_,i⟩:=w.all;have i:lenOf v0=some 0:=by simpa[c]using i
 refine bD ?_;refine RO.cZ U.gr k7 (λq4 o4 c4 av x aw hat hrd=>?_) (hj:=by simp);obtain⟨M,rfl,y⟩:=x;have⟨ax,_,_,j⟩:=y.all;have j:lenOf M=some 0:=by simpa[d]using j
 refine ah ?_;refine RO.arith (v:=aN (g.al.length - 1)) ?_ (hv:=px af af);refine ah ?_;refine RO.cl (yE T (a:=1) (b:=(g.al.length - 1:Nat)) (n:=(k:Int)) af ?_);refine ah ?_;refine RO.cZ U.gr hb λq5 o5 c5 ay z a1 hat hrd=>?_;obtain⟨vp,vs,jc,rfl,B,_,_⟩:=z;have⟨a2,_,_,a6⟩:=B.all;refine ah ?_;refine Ru.aV ?_;rw[decide_eq_true q];exact J _ [_] (by rw[aj2];exact aj.gF (xs:=[_]) U)
theorem ad0(T:Tb ac)(V:FV g n)(Q:G.Sm g)(hb:dV 7 kj A g.al f){s:List Bool}(hs:s.length=n){j:G.lD}{cs:List AV}(hj:tw A j cs)(R:∀i(h:i<j.b9.length),1<=j.b9[i]/\j.b9[i]<=3/\(j.b9[i]=3->i+1=j.b9.length))(h1:1<=j.b9.length)(h4:j.b9.length<=4)(ha:j.args.length=mH j.b9)(he:ua g j.go (j.b9.map vr))(hl:j.args.length<=1000/\j.go.length<=1000)(U:aj A H (fT g f o p n s++us)){K:KT}(W:∀H' ws,aj A H' (fT g f o p n s++ws++us)->K (.bool true) H'):YN ac XF [.az o 0,.agg cs] H K:=by
 have P:=hj.one;obtain⟨X,Y,Z,rfl,E,t,u⟩:=hj;have⟨ag,_,_,ar⟩:=E.all;have⟨av,_,_,aw⟩:=t.all;have⟨ax,_,_,ay⟩:=u.all;refine YF.code T.acO aB ?_;refine au ?_;refine RO.dL U λH1 q U=>?_;refine au ?_;have U:=U.py 3 1;refine au ?_;refine RO.gU U 1 ?_;refine au ?_;refine Ru.nm λS M hS O=>?_;refine Ru.cC O (up (P:=λk=>∀y z a,a+mH (j.b9.drop k)=mH j.b9->aj A y (tS 3 1 (((j.b9.take k).map vr).map aN) k true z::tB tx q [aU j.op,X,.str j.name,Y,Z]::(fT g f o p n s++us))->Ru ac _ S ([(p5,z),(p6,aN a),(aX,aN k)]++pk M [p0,p3,aR,aY]) y) j.b9.length (λk a1 B y z a b U=>?_) 0 af _ _ 0 aB U);subst hS;subst O;have m:=(U.sl 0).bB;refine Ru.loop ?_;refine au ?_;refine Ru.cond (λl=>?_) (λl=>?_)
 .obtain⟨F,I,v⟩:=R k l;have N:=b;rw[aj9 l]at b;simp only[mH]at b;refine au ?_;refine RO.lg U.gr t λq1 o1 a2 J=>?_;have c:((j.b9.take (k+1)).map vr).map aN=((j.b9.take k).map vr).map aN++[aN (vr j.b9[k])]:=by rw[List.take_add_one,getElem?_pos j.b9 k l];simp only[Option.toList_some,akE,aj7,ali]
  have aA:∀C,C=a+(3 - j.b9[k])->C+mH (j.b9.drop (k+1))=mH j.b9:=λC e=>by omega
  generalize a6:j.b9[k]=D at F I v J c aA⊢;have x:D=1\/D=2\/D=3:=af;rcases x with rfl|rfl|rfl;·refine ah ?_;refine RO.push U 0 (λw r d U=>?_);have m:=(U.sl 0).bB;refine ah ?_;exact Ru.wk (B (k+1) af af r d (a+2) (aA _ rfl) (by rw[c];exact U))
  .refine ah ?_;refine RO.push U 0 (λw r d U=>?_);have m:=(U.sl 0).bB;refine ah ?_;exact Ru.wk (B (k+1) af af r d (a+1) (aA _ rfl) (by rw[c];exact U))
  refine ah ?_;refine RO.arith (v:=aN (j.b9.length - 1)) ?_ (hv:=px af af);refine ah ?_;refine Ru.cond (λ(h:k<j.b9.length - 1)=>absurd h (by have:=v rfl;omega)) (λ_=>?_);refine ah ?_;refine RO.push U 0 (λw r d U=>?_);have m:=(U.sl 0).bB;refine ah ?_;exact Ru.wk (B (k+1) af af r d a (aA _ rfl) (by rw[c];exact U))
 have L:k=j.b9.length:=af;subst L;rw[List.drop_length]at b;rw[ak7]at U;simp only[mH,alG]at b;refine Ru.exitTo ?_;refine ah ?_;refine RO.cl (yE T (a:=1) (b:=4) (n:=j.b9.length) af ?_);refine ah ?_;refine RO.de (λ_=>?_) (λh=>absurd (show j.args.length=a by omega) h);refine ah ?_;refine RO.cl (AS T V Q hb hs u af (ws:=j.b9.map vr) (λw hw=>?_) he rfl aB (U.cM (akO _ akj.symm)) λH7 U=>?_);·obtain⟨k,_,rfl⟩:=akk.1 hw;unfold vr;split<;>omega
 refine ah ?_;exact Ru.aV (W _ [_] (by simpa using U))
end
end
section
section
variable{g:G.bu}{a:AV}{b c:ab}{n:Nat}{A H:ai}{us:List Th}
set_option maxHeartbeats 2000000 in theorem ad1(T:Tb ac)(V:FV g n)(l:G.Sm g)(hb:dV 7 kj A g.al a){s:List Bool}(hs:s.length=n){j:G.lD}{cs:List AV}(hj:tw A j cs)(N:I6 g j)(hl:j.args.length<=1000/\j.go.length<=1000/\j.b9.length<=1000)(U:aj A H (fT g a b c n s++us)){K:KT}(f:∀H' ws,aj A H' (fT g a b c n s++ws++us)->K (.bool true) H'):YN ac Xu [.az b 0,.agg cs] H K:=by
 have u:=hj.one;have o:=hj;obtain⟨X,Y,Z,rfl,i,p,e⟩:=hj;have⟨P,_,_,y⟩:=i.all;have⟨Q,_,_,z⟩:=p.all;have⟨R,_,_,B⟩:=e.all;obtain⟨h1,h2,h3,M⟩:=N;obtain⟨r,t,C⟩:=hl;obtain⟨op,args,name,b9,go⟩:=j;simp only at u o i p e y z B h1 h2 h3 r t C⊢;refine YF.code T.acs aB ?_;refine au ?_;refine RO.dL U λH1 q U=>?_;refine bD ?_;refine RO.cl (EU T V hs i af h1 (aj.gF (xs:=[_]) U) λH5 ws U=>?_);have U:=aj.kO (xs:=[_]) U.skip;refine au ?_;refine RO.gU U 0 ?_;refine au ?_;refine RO.gU U 0 ?_;refine RO.tm ?_;refine RO.Eh ?_;refine RO.tm ?_;refine RO.eq (t:=true) ?_ (ht:=by simp[eA,h2]);refine bD ?_;refine RO.de (λ(h:op≠66)=>?_) (λ(h:¬op≠66)=>?_)
 .have D:=h3 h;subst D;refine bD ?_;cases M with
  |go e1 e2 d=>simp only at e1 e2 d;subst e1;subst e2;refine bD ?_;refine RO.lf U 1 (λv x U=>?_);refine bD ?_;refine RO.cl (AS T V l hb hs e af (ws:=[0]) bA d rfl rfl (U.cM (akO _ akj.symm)) λm U=>?_);refine bD ?_;exact Ru.aV (f _ [_] (by simpa using U))
  |Cz e1 e2 d=>simp only at e1 e2 d;subst e1;rw[e2];refine bD ?_;refine RO.lf U 1 (λv x U=>?_);refine bD ?_;refine RO.cl (AS T V l hb hs e af (ws:=[0,0]) bA d rfl rfl (U.cM (akO _ akj.symm)) λm U=>?_);refine bD ?_;exact Ru.aV (f _ [_] (by simpa using U))
  |is e1 e2 d w=>simp only at e1 e2 d w;subst e1;rw[e2];refine bD ?_;refine RO.cl (IZ T d λv hg=>?_);have U:=U.cI hg;refine bD ?_;refine RO.lf U 1 (λv x U=>?_);refine bD ?_;refine RO.cl (AS T V l hb hs e af (ws:=[0,0]) bA w rfl rfl (U.cM (akO _ akj.symm)) λm U=>?_);refine bD ?_;exact Ru.aV (f _ [_] (by simpa using U))
  |gE e1 e2 d=>simp only at e1 e2 d;subst e1;rw[e2];refine bD ?_;refine RO.lf U 1 (λv x U=>?_);refine bD ?_;refine RO.cl (AS T V l hb hs e af (ws:=[1,0]) bA d rfl rfl (U.cM (akO _ akj.symm)) λm U=>?_);refine bD ?_;exact Ru.aV (f _ [_] (by simpa using U))
  |AR e1=>exact absurd e1 h
  |CB e1 e2 e0 S W hg h0 E F I J=>simp only at e1 e2 hg;subst e1;subst e2;subst hg;refine bD ?_;refine RO.cl (adZ T V l hb hs e h0 E F I J (aj.gF (xs:=[_]) U) λm k U=>?_);refine bD ?_;exact Ru.aV (f _ (k++[_]) (by simpa using U))
  |CC e1 e2 d=>simp only at e1 e2 d;subst e1;subst d;refine bD ?_;refine RO.de (λ_=>?_) (λh=>absurd e2 h);refine bD ?_;exact Ru.aV (f _ [_] (by simpa using aj.gF (xs:=[_]) U))
  |ret e1 e2 d=>
   simp only at e1 e2 d;subst d;rw[e2];rcases e1 with rfl|rfl;·refine bD ?_;exact Ru.aV (f _ [_] (by simpa using aj.gF (xs:=[_]) U))
   refine bD ?_;exact Ru.aV (f _ [_] (by simpa using aj.gF (xs:=[_]) U))
  |stuck e1 e2 d=>simp only at e1 e2 d;subst e1;subst e2;subst d;refine bD ?_;exact Ru.aV (f _ [_] (by simpa using aj.gF (xs:=[_]) U))
 have L:op=66:=Classical.not_not.1 h;subst L;refine bD ?_;cases M with|AR e1 O e2 d w he=>refine RO.eQ U 0 ?_;refine RO.cl (ad0 T V l hb hs o O e2 d w he ⟨r,t⟩ (aj.gF (xs:=[_]) U) λm k U=>?_);refine bD ?_;exact Ru.aV (f _ (k++[_]) (by simpa using U))|ret e1=>simp at e1|_ e1=>simp at e1
end
end
section
def ub(g:G.bu)(s:List Bool)(b:G.gV):Bool×List Bool:=
 ((gW (m8 g) s b.params).1&&(gW (ow g) (gW (m8 g) s b.params).2 b.aD).1,(gW (ow g) (gW (m8 g) s b.params).2 b.aD).2)
structure I7(g:G.bu)(n:Nat):Prop where
 fv:FV g n
 name:su g.name
 ne:0<g.al.length
 first:(g.al.getD 0 default).params=[]
 aD:∀b∈g.al,∀x∈b.aD,∃r,wM g x r
 CD:∀b∈g.al,I6 g b.aA
 vq:(gW (ub g) (ahr n false) g.al).1=true
 all:∀k(h:k<(gW (ub g) (ahr n false) g.al).2.length),g.params<=k->(gW (ub g) (ahr n false) g.al).2[k]=true
section
variable{g:G.bu}{d:AV}{c f:ab}{n:Nat}{A H:ai}{us:List Th}
theorem ad4(g:G.bu)(s:List Bool)(x:G.ic):(ow g s x).2.length=s.length:=by
 unfold ow;split
 .split;·unfold m8;split<;>(try split)<;>simp
  rfl
 rfl
theorem ad5(T:Tb ac)(V:FV g n)(a:List G.ic)(h:∀x∈a,∃r,wM g x r)(hl:∀x∈a,x.args.length<=1000):ri ac A (.func Iy [.az c 0] []) qT true (fT g d c f n) (λs=>s.length=n) (ow g) a:=by rintro s x cs H us i j k U;obtain⟨r,h1⟩:=h x i;have:=adV (K:=λv H'=>v=.bool (ow g s x).1/\(ow g s x).2.length=n/\∃b,aj A H' (fT g d c f n (ow g s x).2++b++us)) T V j k h1 (by have:=hl x i;omega) U λH' b e=>⟨rfl,by rw[ad4];exact j,b,e⟩;exact this
theorem ad6(T:Tb ac){H:ai}{b:Bool}{K:KT}(a:K (.bool b) H):YN ac Iz [.bool b] H K:=by refine YF.code T.acu aB ?_;refine au ?_;exact Ru.aV a
def I8:ai->Bool->List AV->Prop:=λ_ v cs=>cs=[.bool v]
theorem ad7(T:Tb ac){H:ai}{b:List Bool}{g:AV}(j:Sl H 1 (b.map .bool) b.length g)(hl:b.length<=1000000)(l:∀a∈b,a=true){K:KT}(m:∀H',bm H H'->K (.bool true) H'):YN ac Xv [g,.func Iz [] []] H K:=by
 have n:ri ac H (.func Iz [] []) I8 false (λ_:Unit=>[]) (λ_=>True) (λs v=>(v,s)) b:=by rintro s a cs H' us _ _ rfl U;exact ad6 T ⟨rfl,trivial,[],by simpa using U⟩
 have e:gW (λ(s:Unit)(v:Bool)=>(v,s)) () b=(true,()):=I5 (p:=λv=>v) l;have o:dV 1 I8 H b g:=⟨_,j,λk p=>by rw[alt,aj9 (by simpa using p)];simp[I8]⟩;refine Ct T.act bA T.acQ bA T.ac3 (size:=1) (agg:=false) bA (λ_=>rfl) (T:=λ_:Unit=>[]) (s:=()) (us:=[]) rfl rfl rfl (IX T.acR bA rfl (λa cs h=>by cases h;rfl) n) (λa cs h=>by cases h;rfl) o hl trivial (aj.dc H) λH' q _ i=>?_;rw[e];exact m H' i.gr
theorem ad8(T:Tb ac)(V:FV g n){s:List Bool}(hs:s.length=n){b:List G.ic}{j:AV}(k:dV 6 qT A b j)(hl:b.length<=1000000)(h:∀x∈b,∃r,wM g x r)(e:∀x∈b,x.args.length<=1000)(U:aj A H (fT g d c f n s++us)){K:KT}(l:∀H',(gW (ow g) s b).2.length=n->aj A H' (fT g d c f n (gW (ow g) s b).2++us)->K (.bool (gW (ow g) s b).1) H'):YN ac Xt [j,.func Iy [.az c 0] []] H K:=by refine Ct T.acq bA T.acJ bA T.acX (size:=6) (agg:=true) bA (λh=>by cases h) rfl rfl rfl (OE T.acK bA rfl (λa cs h=>⟨by obtain⟨v,rfl,_⟩:=h;rfl,h.one⟩) (ad5 T V b h e)) (λa cs h=>rfl) k hl hs U λH' o m i=>l H' m i.skip
theorem ad9(T:Tb ac)(V:FV g n){s:List Bool}(hs:s.length=n){b:List Int}{i:AV}(j:fZ A b i)(hl:b.length<=1000000)(U:aj A H (fT g d c f n s++us)){K:KT}(k:∀H',(gW (m8 g) s b).2.length=n->aj A H' (fT g d c f n (gW (m8 g) s b).2++us)->K (.bool (gW (m8 g) s b).1) H'):YN ac NZ [i,.func Ix [.az c 0] []] H K:=by refine Ct T.Oy bA T.IT bA T.IU (size:=1) (agg:=false) bA (λ_=>rfl) rfl rfl rfl (IX T.Oz bA rfl (λa cs h=>by cases h;rfl) (adS T V b)) (λa cs h=>by cases h;rfl) (fZ.r j) hl hs U λH' m l e=>k H' l e.skip
theorem aea{e b:Type}{st:b->e->Bool×b}:∀{a:List e}{s:b}{k:Nat}(g:k<a.length){r:Bool×b},gW st s (a.drop k)=r->r.1=true->(st s a[k]).1=true/\gW st (st s a[k]).2 (a.drop (k+1))=r:=by
 intro a s k g r h i;rw[aj9 g]at h;simp only[gW]at h;split at h;·rename_i h1;exact⟨h1,h⟩
 rw[<-h]at i;cases i
set_option maxHeartbeats 1000000 in theorem aeb(T:Tb ac){H:ai}(W:I7 g n)(C:G.Sm g){cs:List AV}(hg:iG H g cs){K:KT}(X:∀H',bm H H'->K (.bool true) H'):YN ac Xk [.agg cs] H K:=by
 have z:=hg.one;obtain⟨d,rfl,cA⟩:=hg;have⟨hd,_,_,hn⟩:=cA.all;obtain⟨V,Y,p,r,eh,A,F,eZ⟩:=W;have E:=V;obtain⟨v0,Z,v2,v3⟩:=V;have ag:=C.nb;refine YF.code T.acb aB ?_;refine au ?_;refine RO.dL (aj.dc H) λH1 q U=>?_;refine bD ?_;refine RO.cl (IZ T Y λH2 hg=>?_);have U:=U.cI hg;refine ah ?_;refine RO.cl (yE T (a:=0) (b:=g.bp) (n:=g.params) ⟨v0,Z⟩ ?_);refine ah ?_;refine RO.de (λ(h:g.al.length=0)=>by omega) (λ_=>?_);refine ah ?_;refine RO.cZ U.gr cA (λq1 o1 c1 hj b I hat hrd=>?_) (hj:=p);obtain⟨P,vs,jc,rfl,e,_,_⟩:=b;have⟨J,_,_,j⟩:=e.all;rw[bF p]at r;have j:lenOf P=some 0:=by simpa[r]using j
 refine ah ?_;refine RO.eQ U 0 ?_;refine ah ?_;refine RO.oT U (n:=n) (λH3 f U=>?_) (hx:=by show aI g.bp=_;rw[<-v3];rfl) (hy:=by show aI g.bp=_;rw[<-v3];rfl) (hz:=by rw[iZ];simp);have er:fO [AV.bool false] n=(ahr n false).map .bool:=by rw[iZ,alz]
 rw[er]at U;refine ah ?_;refine RO.dL U (λH4 c U=>?_) (v:=.agg [.str g.name,aI g.params,aI g.bp,d,.slice f 0 n n true]);refine ah ?_;refine Ru.nm λS M hS Q=>?_;refine Ru.cC Q (up (P:=λk=>∀D s,gW (ub g) s (g.al.drop k)=gW (ub g) (ahr n false) g.al->s.length=n->aj H D (fT g d c f n s++[tB fI q [.str g.name,aI g.params,aI g.bp,d]])->Ru ac _ S ([(da,aN k)]++pk M [p1,p3,dw,dg]) D) g.al.length (λk R ih D s hs t U=>?_) 0 af _ _ rfl aB U);subst hS;subst Q;refine Ru.loop ?_;refine au ?_;refine Ru.cond (λl=>?_) (λl=>?_);·obtain⟨b,hs⟩:=aea l hs F;have o:=agB l;simp only[ub,aj6]at b hs;have ar:=C.bl _ o;refine au ?_;refine RO.cZ U.gr cA (λq1 o1 c1 hj u I hat hrd=>?_);have z:=u.one;obtain⟨P,vs,jc,rfl,e,v,w⟩:=u;have B:=w;obtain⟨va,vk,vg,rfl,av,aw,ax⟩:=w;have⟨J,_,_,j⟩:=e.all;have⟨L,_,_,ay⟩:=v.all;refine bD ?_;refine RO.fx U (λH5 q5 U=>?_);refine bD ?_;refine RO.cl (ad9 T E t e af (aj.gF (xs:=[_]) U) λH6 N U=>?_);have U:=aj.kO (xs:=[_]) U;rw[b.1];refine bD ?_;refine RO.cl (ad8 T E N v af (eh _ o) (λx hx=>by have:=(C.st _ o x hx).1;omega) (aj.gF (xs:=[_]) U) λH7 y U=>?_);have U:=aj.kO (xs:=[_]) U;rw[b.2];refine bD ?_;refine RO.eQ U 0 ?_;refine RO.tm ?_;refine RO.cl (ad1 T E C cA y B (A _ o) ⟨af,af,af⟩ (aj.gF (xs:=[_]) U) λH8 ws U=>?_);have U:=(aj.kO (xs:=[_]) U.skip).tail;refine bD ?_;exact Ru.wk (ih (k+1) af af _ _ hs y U)
 have O:k=g.al.length:=af;subst O;rw[List.drop_length]at hs;refine Ru.exitTo ?_;refine ah ?_;obtain⟨m,o⟩:∃m:Nat,g.params=(m:Int):=⟨g.params.toNat,af⟩;refine RO.V7 (U.sl 1) (λsv i=>?_) (b:=m) (hy:=by show aI g.params=_;rw[o];rfl);have L:=i.bB;have i:Sl D 1 ((s.drop m).map .bool) (s.drop m).length sv:=by rw[alC,t,List.map_drop];simpa using i
 refine RO.cl (ad7 T i (by rw[alC];omega) (λa ha=>?_) λH9 hg=>?_);·simp only[gW]at hs;rw[<-hs]at eZ;obtain⟨k,R,rfl⟩:=aka ha;rw[List.getElem_drop];rw[alC]at R;exact eZ (m+k) (by simp only;omega) af
 refine ah ?_;exact Ru.aV (X _ (U.gr.trans hg))
end
end
end
end Go.am.R
namespace Go.am
section
variable{ac:Nat->aG}{c:Cx}{s:List SI}{L:Kn}{H A:ai}{d:Option ab}{l:List be}{ts:List Th}{q:ab}{e n:Nat}
end
section
variable{ac:Nat->aG}
section
def Body(ac:Nat->aG)(A:ai)(y:AV)(m:Nat)(E:Nat->List AV->List Th->Prop)(J:Nat->List Th->Prop)(D:List Th->Prop):Prop:=
 ∀k args b c us H,k<m->E k args b->J k c->aj A H (b++c++us)->YF ac y args H λv H'=>∃a,aj A H' (a++us)/\(v=.bool true/\J (k+1) a\/v=.bool false/\D a)
def yI(ac:Nat->aG)(A:ai)(fv:AV)(m:Nat)(E:Nat->List AV->List Th->Prop)(c:List Th)(d Kp:ai->Prop):Prop:=
 ∀y J D b us H(K:KT),y.bB=true->y.ee=true->y.cells=[y]->(∀k b us H,J k b->aj A H (b++us)->Kp H)->Body ac A y m E J D->J 0 b->aj A H (c++b++us)->d H->(∀H' a v,aj A H' (a++us)->(J m a\/D a)->K v H')->YF ac fv [y] H K
def AT:List ab->List AV->Kn->Kn
 |p::a,v::b,L=>AT a b ((p,v)::L)
 |_,_,L=>L
theorem Le.pr:∀{a:List ab}{b:List AV}{L:Kn}{aa:ap AV},Le L aa->Le (AT a b L) (ph a b aa)|[],_,_,_,h=>by trivial|p::a,[],_,_,h=>by trivial|p::a,v::b,L,aa,h=>by simp only[AT,ph];exact Le.pr (h.set (some p) v)
def yJ(A:ai)(l:ab)(o2:cq)(us:List Th)(J:List Th->Prop)(Dn:cP->List Th->Prop)(j:cP)(_:Fr)(H':ai):Prop:=
 ∃a,aj A H' (a++tX l o2::us)/\match j with
  |.none=>J a
  |j=>Dn j a
def OJ(ac:Nat->aG)(l:ab)(o1 o2:cq)(body:bt)(K:cP->Fr->ai->Prop)(j:cP)(fr:Fr)(H1:ai):Prop:=
 j=.none/\H1.get l=o1/\∃n,Xc ac n body fr (H1.set l o2) K
abbrev CE(A:ai)(l:ab)(o2:cq)(us:List Th)(J:List Th->Prop)(Dn:cP->List Th->Prop):Cx:=⟨yJ A l o2 us J Dn,[],some l⟩
abbrev EV(ac:Nat->aG)(l:ab)(o1 o2:cq)(body:bt)(K:cP->Fr->ai->Prop):Cx:=⟨OJ ac l o1 o2 body K,[],some l⟩
variable{A H:ai}{l:ab}{o1 o2:cq}{us xs:List Th}{J:List Th->Prop}{Dn:cP->List Th->Prop}{L:Kn}{body:bt}
theorem Ru.dN(U:aj A H (xs++tX l o1::us))(h:∀b,aj A b (xs++tX l o2::us)->Ru ac (CE A l o2 us J Dn) [.code body] L b):Ru ac (EV ac l o1 o2 body (yJ A l o2 us J Dn)) [] L H:=λaa a=>by have hi:(xs++tX l o1::us)[xs.length]?=some (tX l o1):=aB;have h2:=U.tV xs.length hi o2;have e:(xs++tX l o1::us).set xs.length (tX l o2)=xs++tX l o2::us:=aB;rw[e]at h2;obtain⟨n,c⟩:=h _ h2 aa a;exact⟨rfl,U.rj xs.length hi,n,c.mono (afb _) λ_ _ _ h=>h⟩
theorem Ru.bG{ts:List Th}(U:aj A H (ts++tX l o2::us))(a:J ts):Ru ac (CE A l o2 us J Dn) [] L H:=λ_ _=>⟨ts,U,a⟩
theorem RJ.bG{ts:List Th}{j:cP}(U:aj A H (ts++tX l o2::us))(hj:j≠.none)(a:Dn j ts):RJ ac (CE A l o2 us J Dn) j [] L H:=λ_ _=>⟨ts,U,by grind⟩
theorem Ru.OL{ts:List Th}{s:List SI}(U:aj A H (ts++tX l o2::us))(a:Dn .ret ts):Ru ac (CE A l o2 us J Dn) (.code .ret::s) L H:=Ru.ret (RJ.wp (RJ.bG U aB a))
theorem OM{a b:Th}{d c us:List Th}:(a::b::(d++c++us)).Perm (d++(a::c)++(b::us)):=by have h1:(d++(a::c)++(b::us)).Perm (b::(d++(a::c)++us)):=akj;have h2:(d++(a::c)++us).Perm (a::(d++c++us)):=(akj (l₁:=d)).append_right us;exact((h1.trans (h2.cons b)).trans (akS a b _)).symm
theorem I9{a:Th}{ws b us:List Th}:(ws++(a::b)++us).Perm (ws++b++a::us):=by have h1:(ws++b++a::us).Perm (a::(ws++b++us)):=akj;have h2:(ws++(a::b)++us).Perm (a::(ws++b++us)):=(akj (l₁:=ws)).append_right us;exact h2.trans h1.symm
theorem ON{aa:ap AV}{b:List ab}{dN body:bt}{c:ab}{args:List AV}{Q:KT}(d:H.get l=.loop .ready .none 0 aa b dN body c)(e:args.length=b.length)(f:kh ac (OJ ac l (.loop .ready .none 0 aa b dN body c) (.loop .busy .none 0 aa b dN body c) body (yJ A l (.loop .busy .none 0 aa b dN body c) us J Dn)) [.code dN] .none ⟨ph b args aa,[],some l⟩ H)(q:∀H' a,aj A H' (a++tX l (.loop .busy .none 0 aa b dN body c)::us)->J a->Q (.bool true) (H'.set l (.loop .ready .none 0 aa b dN body c)))(hd:∀j H' a,j≠.none->aj A H' (a++tX l (.loop .busy .none 0 aa b dN body c)::us)->Dn j a->Q (.bool false) (H'.set l (.loop .done j 0 aa b dN body c))):YF ac (.yield l) args H Q:=by obtain⟨g,i⟩:=f;obtain⟨m,o⟩:=(Ad ac g).exec (K:=λm j fr H1=>j=.none/\H1.get l=.loop .ready .none 0 aa b dN body c/\Xc ac m body fr (H1.set l (.loop .busy .none 0 aa b dN body c)) (yJ A l (.loop .busy .none 0 aa b dN body c) us J Dn)) (λm r j fr H n h=>⟨h.1,h.2.1,h.2.2.mono n λ_ _ _ h=>h⟩) ((mono ac g).exec (afb _) (λj fr H h=>by obtain⟨h1,h2,k,h3⟩:=h;grind) i);refine⟨max g m+1,?_⟩;simp only[Xf,io,d,aK e];refine(show Xc ac g dN _ H _ from o).mono (Nat.le_max_left ..) λj fr H1 h=>?_;obtain⟨rfl,h2,h3⟩:=h;simp only[h2];refine h3.mono (Nat.le_max_right ..) λj _ H' h=>?_;obtain⟨a,p,s⟩:=h;have t:H'.get l=.loop .busy .none 0 aa b dN body c:=p.rj a.length aB;grind
theorem Ru.pG{K:cP->Fr->ai->Prop}{M:List ab}{s:List SI}{f:aJ}{b:List ab}{dN body:bt}{fv:AV}{m:Nat}{E:Nat->List AV->List Th->Prop}{R p:List Th}{S Kp:ai->Prop}{J:Nat->List Th->Prop}{Dn:cP->List Th->Prop}(U:aj A H (R++p++us))(V:yI ac A fv m E R S Kp)(W:∀F,bm H F->S F)(X:J 0 p)(Y:∀k args o,E k args o->args.length=b.length)(G:∀k c us H,J k c->aj A H (c++us)->Kp H)(Z:∀k args o c us l o1 o2 H,k<m->E k args o->J k c->aj A H (o++c++tX l o1::us)->Ru ac (EV ac l o1 o2 body (yJ A l o2 us (J (k+1)) Dn)) [.code dN] (AT b args L) H)(z:∀H' a u,J m a->aj A H' (a++tX u (.deferred false)::us)->Ru ac ⟨K,u::M,none⟩ s L H')(B:∀j H' a u,j≠.none->Dn j a->aj A H' (a++tX u (.deferred false)::us)->RJ ac ⟨K,u::M,none⟩ j s L H')(hf:bf L f=fv:=by exact cw)(I:fv.bB=true:=by first|rfl|assumption):Ru ac ⟨K,M,none⟩ (.code (.rangeFunc f b dN body)::s) L H:=by
 intro aa i;have N:=U.AQ (.deferred false);have q:=N.AQ (.loop .ready .none 0 aa b dN body H.next);have r:=q.cM OM;have w:bm H ((H.new (.deferred false)).new (.loop .ready .none 0 aa b dN body H.next)):=(bm.new H _).trans (bm.new _ _);generalize hl:(H.new (.deferred false)).next=l at q r;generalize O:((H.new (.deferred false)).new (.loop .ready .none 0 aa b dN body H.next))=F at q r w;have key:=V (.yield l) (λk a=>∃c,a=tX l (.loop .ready .none 0 aa b dN body H.next)::c/\J k c) (λa=>∃c j,j≠.none/\a=tX l (.loop .done j 0 aa b dN body H.next)::c/\Dn j c) _ _ F (λ_ H'=>match H'.get l with
  |.loop st cB fn C b aw bd d=>match st with|.busy=>False|_=>kh ac K s cB ⟨aa,H.next::M,none⟩ (H'.set l (.loop .exhausted cB fn C b aw bd d))
  |_=>False) rfl rfl rfl (by rintro k _ g H'⟨c,rfl,t⟩P;exact G k c _ H' t P.Ej) ?_ ⟨p,rfl,X⟩ r (W _ w) ?_;·obtain⟨n,hn⟩:=key;refine⟨n+1,?_⟩;simp only[Xc,exec];rw[hl,O,i.gv hf I];exact hn
 .rintro k args o _ g T hk x⟨c,rfl,t⟩h;have y:=h.cM I9;have e:T.get l=.loop .ready .none 0 aa b dN body H.next:=y.rj (o++c).length aB;have D:=Z k args o c g l _ (.loop .busy .none 0 aa b dN body H.next) T hk x t y (ph b args aa) i.pr;refine ON e (Y _ _ _ x) D (λH' a h1 h2=>⟨tX l _::a,?_,.inl ⟨rfl,a,rfl,h2⟩⟩) (λj H' a hj h1 h2=>⟨tX l _::a,?_,.inr ⟨rfl,a,j,hj,rfl,h2⟩⟩);·have:=h1.tV (q:=l) (o:=.loop .busy .none 0 aa b dN body H.next) a.length aB (.loop .ready .none 0 aa b dN body H.next);rw[show(a++tX l (.loop .busy .none 0 aa b dN body H.next)::g).set a.length (tX l (.loop .ready .none 0 aa b dN body H.next))=a++tX l (.loop .ready .none 0 aa b dN body H.next)::g by simp]at this;exact this.wy
  have:=h1.tV (q:=l) (o:=.loop .busy .none 0 aa b dN body H.next) a.length aB (.loop .done j 0 aa b dN body H.next);rw[show(a++tX l (.loop .busy .none 0 aa b dN body H.next)::g).set a.length (tX l (.loop .done j 0 aa b dN body H.next))=a++tX l (.loop .done j 0 aa b dN body H.next)::g by simp]at this;exact this.wy
 rintro H' _ v h(⟨c,rfl,Q⟩|⟨c,j,hj,rfl,hD⟩);·have e:=h.rj 0 rfl;simp only[e];exact z _ c _ Q (h.tV 0 rfl _).tail aa i
 have e:=h.rj 0 rfl;simp only[e];exact B j _ c _ hj hD (h.tV 0 rfl _).tail aa i
end
section
def tR(size:Nat)(vs:List AV)(n:Nat)(v:AV):Th where
 P H b:=Sl H size vs n v/\(∀i o m c e,v=.slice i o m c e->i∈b)/\∀j∈b,j.an<H.next.an
 fr:=by
  rintro H H' b⟨h1,h2,h3⟩f hg
  refine⟨?_,h2,λj hj=>ako (h3 j hj) f⟩
  rcases h1 with h|⟨i,o,cap,ex,c,m,e,d,aM,fz,g,k,a⟩
  .exact .inl h
  .exact .inr ⟨i,o,cap,ex,c,m,e,d,aM,fz,g,by rw[hg i (h2 _ _ _ _ _ g)];exact k,a.1,a.2.1,a.2.2.1,ako a.2.2.2.1 f,a.2.2.2.2⟩
 lt h:=h.2.2
def tZ(F:List Th):Th where
 P H a:=(∀t∈F,∃f,(∀j∈f,j∈a)/\t.P H f)/\∀j∈a,j.an<H.next.an
 fr:=by
  rintro H H' a⟨h1,h2⟩b hg
  refine⟨λt d=>?_,λj hj=>ako (h2 j hj) b⟩
  obtain⟨f,c,e⟩:=h1 t d
  exact⟨f,c,t.fr e b λj hj=>hg j (c j hj)⟩
 lt h:=h.2
variable{A H H':ai}{ts us:List Th}{F:List Th}{t t':Th}{i j e size n o m:Nat}{vs ws:List AV}{v w:AV}{full:Bool}{q r:ab}
theorem aj.rl(U:aj A H ts):aj A H (tZ []::ts):=by have h0:(tZ []).P H []:=⟨λt h=>absurd h aB,λj h=>absurd h aB⟩;exact U.push (bm.refl H) h0 λj h=>absurd h aB
theorem aj.lq(U:aj A H (t::tZ F::ts)):aj A H (tZ (t::F)::ts):=by
 obtain⟨b,fs,c⟩:=U;match fs,c with
  |d::e::fs,⟨h1,h2,h3,a,g,k,i⟩=>
   refine⟨b,(d++e)::fs,⟨λu hu=>?_,λj hj=>?_⟩,λj hj=>?_,λj hj f l=>?_,i⟩
   .rcases aeV.1 hu with rfl|hu;·grind
    obtain⟨f,m,n⟩:=a.1 u hu;grind
   .rcases ahp.1 hj with h|h;·exact t.lt h1 j h
    exact a.2 j h
   .rcases ahp.1 hj with h|h;·exact h2 j h
    exact g j h
   grind
theorem aj.mf(U:aj A H ts)(i:Nat)(hi:ts[i]?=some (tZ F))(a:t∈F):∃f,t.P H f:=by obtain⟨c,b⟩:=U.get i hi;obtain⟨f,_,h⟩:=b.1 t a;grind
theorem aj.OO(U:aj A H (tZ F::ts))(b:t∈F)(h:∀f,t.P H f->t'.P H f):aj A H (tZ (t'::F)::ts):=by
 refine U.as 0 rfl λc a=>⟨λu hu=>?_,a.2⟩;rcases aeV.1 hu with rfl|hu;·obtain⟨f,d,e⟩:=a.1 t b;grind
 exact a.1 u hu
theorem tS.mg{a:List ab}(h:(tS e size vs n full v).P H a):(tR size vs n v).P H a:=by refine⟨dU.sl h,λi o m c ex d=>?_,dU.below h⟩;rcases h with⟨_,_,_,h⟩|⟨f,g,aM,cap,b,rfl,h2,_⟩;all_goals grind
theorem Fs.mC:∀{fs:List (List ab)}{ts:List Th}{i j:Nat},Fs A H fs ts->ts[i]?=some t->ts[j]?=some t'->i<j->∃f g,t.P H f/\t'.P H g/\∀p∈f,p∉g|[],[],i,_,_,h,_,_=>by grind|[],_::_,_,_,h,_,_,_=>h.elim|_::_,[],_,_,h,_,_,_=>h.elim|b::fs,t0::ts,0,j+1,⟨h1,_,h3,a⟩,hi,hj,_=>by grind[List.getElem?_cons_zero,adG,ak6,Fs.at,List.mem_of_getElem?]|b::fs,t0::ts,i+1,j+1,⟨_,_,_,a⟩,hi,hj,c=>by exact Fs.mC a hi hj af|_::_,_::_,_,0,_,_,_,h=>by omega
variable{c:Cx}{s:List SI}{L:Kn}{d:Option ab}{l:List be}
theorem RO.aec(U:aj A H ts)(i j:Nat){x:aJ}{p:ab}{C cap:Nat}{ex:Bool}(h:∀H',aj A H' ts->RO ac c l s (bC L d v) H')(G:bf L x=.az q o:=by exact cw)(D:lk L p=.slice r 0 C cap ex:=by exact cw)(hi:ts[i]?=some (tB e q vs):=by rfl)(hj:ts[j]?=some (tS m size ws n full (.slice r 0 C cap ex)):=by rfl)(u:i≠j:=by decide)(I:vs[o]?=some v:=by rfl):RO ac c (⟨d,.aW x,none,[p],[]⟩::l) s L H:=by
 have w:q≠r:=by
  obtain⟨_,fs,E⟩:=U;rcases Nat.lt_or_gt_of_ne u with a|a
  .obtain⟨f,g,h1,h2,h3⟩:=E.mC hi hj a;rintro rfl;refine h3 q h1.1 ?_;rcases h2 with⟨_,_,_,h⟩|⟨J,K,aM,cap,y,rfl,h2,_⟩;·cases h
   injection h2 with h2;subst h2;exact aeU ..
  obtain⟨f,g,h1,h2,h3⟩:=E.mC hj hi a;rintro rfl;refine h3 q ?_ h2.1;rcases h1 with⟨_,_,_,h⟩|⟨J,K,aM,cap,y,rfl,h2,_⟩;·cases h
  injection h2 with h2;subst h2;exact aeU ..
 obtain⟨M,z⟩:=U.get i hi;have t:=tB.cell z I;have B:aj A ((H.set r .none).set r (H.get r)) ts:=U.bX rfl λk=>by
  rw[ai.aF];split;·rename_i e;rw[e]
  rename_i e;rw[ai.aF,aq e]
 refine RO.Ei (λ_ _ h=>by grind) (λ_ h=>by grind) (λaa b=>⟨H.set r .none,?_,?_⟩) (λ_ _=>rfl) (h _ B)
 .simp only[eV,b.get D rfl,jq,aE,b.gv G rfl];have:bh (H.set r .none) q o=some v:=by simp only[bh,ai.aF,aq w];exact t
  unfold bh at this;split at this;all_goals simp_all[jp,fE,iI,aK,aes,bP]
 simp only[eV,b.get D rfl,jq,eB]
def i9(M:List ab):List Th:=M.map λm=>tX m (.deferred false)
theorem OP:∀{M:List ab}{H:ai},aj A H (i9 M++ts)->∃H',jN H M=some H'/\aj A H' ts|[],H,U=>⟨H,rfl,U⟩|m::M,H,U=>by have hg:H.get m=.deferred false:=U.rj 0 rfl;obtain⟨H',h1,h2⟩:=OP (U.tV 0 rfl (.deferred true)).tail;simp[hg,h1,h2,jN]
theorem RJ.mI{K:KT}{c:List iW}{M:List ab}{a:cP}(hj:a=.none\/a=.ret)(U:aj A H (i9 M++ts))(h:∀H',aj A H' ts->∃vs,tW L H' c vs/\K (iL vs) H'):RJ ac ⟨pu c K,M,none⟩ a [] L H:=λaa b=>by obtain⟨H',h1,h2⟩:=OP U;obtain⟨vs,h3,d⟩:=h H' h2;have:=h3.yf b;rcases hj with rfl|rfl<;>simp only[kh,pu,h1,this]<;>exact d
theorem Ru.mI{K:KT}{a:List iW}{M:List ab}{s:List SI}(U:aj A H (i9 M++ts))(h:∀H',aj A H' ts->∃vs,tW L H' a vs/\K (iL vs) H'):Ru ac ⟨pu a K,M,none⟩ (.code .ret::s) L H:=Ru.ret (RJ.wp (RJ.mI (.inr rfl) U h))
end
end
section
variable{ac:Nat->aG}{c:Cx}{s:List SI}{L:Kn}{A B H H':ai}{d:Option ab}{l:List be}{ts us:List Th}{q r:ab}{e size n m o k i j bytes:Nat}{vs ws:List AV}{v w sv:AV}{full:Bool}
theorem OQ{c:ap AV}{n:Nat}:∀{m o:Nat}{l:List AV},iI c n o m=some l->l.length=m/\o+m<=max n o/\∀j(h:j<l.length),c.bw .alR (o+j)=l[j]
 |0,o,l,h=>by simp only[iI,adG]at h;grind
 |m+1,o,l,h=>by
  simp only[iI]at h;split at h
  .split at h;·rename_i a hl;injection h with h;subst h;obtain⟨h1,h2,h3⟩:=OQ hl;grind
   grind
  grind
theorem I'{cs:List AV}(h:fE H q o n=some cs)(a:k+m<=n):fE H q (o+k) m=some ((cs.drop k).take m):=by
 unfold fE at h⊢;split at h;·rename_i b c _ _ _ _ hg;obtain⟨h1,h2,h3⟩:=OQ h;by_cases h0:m=0;all_goals grind[iI,yh,akF,alC,alo,aly]
 grind
theorem Sl.bX(h:Sl H size vs n sv):iy sv sv=true:=by rcases h with⟨rfl,_⟩|⟨_,_,_,_,_,_,_,_,_,_,rfl,_⟩;all_goals simp[iy,gz,ab.ip]
theorem vt{xs ts us:List Th}:(xs++ts++us).Perm (ts++(xs++us)):=by rw[<-aj2];exact akH.append_right us
theorem dV.bX{a:Type}{R:ai->a->List AV->Prop}{b:List a}(h:dV size R H b sv):iy sv sv=true:=by obtain⟨vs,h,_⟩:=h;exact h.bX
theorem RO.Ja(U:aj A H ts)(i:Nat){a x:aJ}{re:List jo}(h:∀H',aj A H' (ts.set i (tB e q (sp vs o ws)))->(∀aa,Le (bC L d .alR) aa->fG aa H' re=true)/\RO ac c l s (bC L d .alR) H')(f:bf L a=.az q o:=by exact cw)(g:bf L x=.agg ws:=by exact cw)(hi:ts[i]?=some (tB e q vs):=by rfl)(j:o+ws.length<=vs.length:=by first|decide|exact akc rfl|simp|omega)(k:ws.length=n:=by first|rfl|simp)(m:dS ws=true:=by repeat first|rfl|assumption|(refine ao ?_ ?_)):RO ac c (⟨d,.store n a x,none,[],re⟩::l) s L H:=by obtain⟨u,p,_,hu⟩:=U.ki i hi;obtain⟨H',fp',h1,h2,h3⟩:=tB.wx (ws:=ws) p j m;obtain⟨r,t⟩:=h H' (hu h2 h3);refine RO.Ei (λ_ _ h=>by grind) (λ_ h=>by grind) (λaa b=>⟨H',?_,rfl⟩) r t;simp only[eV,aE,b.gv f rfl,b.gv g rfl,AV.cells,k,bq,h1]
theorem RO.Jb{f:aJ}{args:List aJ}{fv:AV}{i:List AV}{p:ab}{re:List jo}{A cap off:Nat}{ex:Bool}(b:∀k,(∀j,j≠r->k.get j=H.get j)->k.next=H.next->YF ac fv i k λm H'=>m=v/\H'=k)(h:∀n,(∀j,n.get j=H.get j)->n.next=H.next->(∀aa,Le (bC L d v) aa->fG aa n re=true)/\RO ac c l s (bC L d v) n)(C:lk L p=.slice r off A cap ex:=by exact cw)(D:bf L f=fv:=by exact cw)(o:fv.bB=true:=by first|rfl|assumption)(E:args.map (bf L)=i:=by rfl)(q:i.all AV.bB=true:=by repeat first|rfl|assumption|(refine ad ?_ ?_)):RO ac c (⟨d,.call f args,none,[p],re⟩::l) s L H:=λaa a=>by
 have t:args.map (gv aa)=i:=by subst E;refine alk λx F=>?_;exact a.gv rfl (aln.1 q _ (akp F))
 obtain⟨y,u⟩:=b (H.set r .none) (λj hj=>by rw[ai.aF,aq hj]) rfl;have g:∀j,((H.set r .none).set r (H.get r)).get j=H.get j:=λj=>by
  rw[ai.aF];split;·rename_i e;rw[e]
  rename_i e;rw[ai.aF,aq e]
 obtain⟨G,I⟩:=h _ g rfl;obtain⟨z,w⟩:=I _ (a.set d v);refine⟨max y z+1,?_⟩;simp only[Xo,Go.am.aC,fF,eV,a.get C rfl,jq,bq];rw[a.gv D o,t];refine(show Xf ac y fv i _ _ from u).mono (Nat.le_max_left ..) λm H' J=>?_;obtain⟨rfl,rfl⟩:=J;have K:fG (aQ aa d m) (eB (H.set r .none) [(r,H.get r)]) re=true:=G _ (a.set d m);rw[aK K];exact(show Xo ac z l _ _ _ from w).mono (Nat.le_max_right ..) λ_ _ h=>h
theorem RO.Jc(U:aj A H ts){x y:aJ}{r:AV}{t:List AV}{re:List jo}(hs:(sv=.aS/\vs=[]/\n=0)\/∃i o,sv=.slice i o n n true/\Sl H size vs n sv)(b:Sl H size ws 1 r)(h:∀H' v,bm H H'->aj A H' (tS e size (vs++ws) (n+1) true v::ts)->(∀aa,Le (bC L d v) aa->fG aa H' re=true)/\RO ac c l s (bC L d v) H')(h1:dS ws=true:=by repeat first|rfl|assumption|(refine ao ?_ ?_))(u:bf L x=sv:=by exact cw)(w:bf L y=r:=by exact cw)(hb:(n+1)*bytes<=70368744177664:=by omega)(z:n+1<=70368744177664:=by omega):RO ac c (⟨d,.append e bytes size t false x y,none,[],re⟩::l) s L H:=by
 have f:(fw ((n+1)*bytes)&&fw (n+1))=true:=by rw[ww hb,ww z];rfl
 have hd:sv.bB=true:=by rcases hs with⟨rfl,_⟩|⟨_,_,rfl,_⟩<;>rfl
 have key:∃v H',kI e bytes size H sv 1 ws=some (v,H')/\bm H H'/\aj A H' (tS e size (vs++ws) (n+1) true v::ts):=by
  rcases hs with⟨rfl,rfl,rfl⟩|⟨i,o,rfl,hs⟩;·refine⟨.slice H.next 0 1 1 false,H.new (.cells (db ws) (1*size) e true [] 0),?_,bm.new H _,U.push (bm.new H _) (dU.new (by simpa using b.length) false true) (uU H)⟩;rw[akh]at f;simp only[kI,h1,aku,aes,bP,show akb 1 0=false from rfl,f,bq]
  have a:=hs.je;have j:=hs.length;refine⟨.slice H.next 0 (n+1) (n+1) false,H.new (.cells (db (vs++ws)) ((n+1)*size) e true [] 0),?_,bm.new H _,U.push (bm.new H _) (dU.new (by rw[aj8,j,b.length,alB]) false true) (uU H)⟩;have m:ak2 (n+1) n=false:=by cases p:ak2 (n+1) n with|false=>rfl|true=>have:=akc p;omega
  simp only[je,fE]at a;cases hg:H.get i with
  |cells C D J I aM fz=>rw[hg]at a;simp only at a;cases k:iI C D o (n*size)with|none=>rw[k]at a;cases a|some K=>rw[k]at a;simp only[adG,aj1,true_and]at a;subst a;simp only[kI,h1,aku,aes,bP,m,f,hg,k,bq]
  |_=>rw[hg]at a;cases a
 obtain⟨v,H',h2,h3,E⟩:=key;obtain⟨F,G⟩:=h H' v h3 E;have q:=b.bB;refine RO.Ei (λ_ _ h=>by grind) (λ_ h=>by grind) (λaa g=>⟨H',?_,rfl⟩) F G;simp only[eV,aE,g.gv u hd,g.gv w q,b.je,aes,bP,h2]
def pc(v:AV)(b:Nat):AV:=match v with|.slice i o _ cap ex=>.slice i o b cap ex|v=>v
theorem CF{b:Nat}(hs:Sl H size vs n sv)(hb:b<=n):Sl H size (vs.take (b*size)) b (pc sv b):=by
 rcases hs with⟨rfl,rfl,rfl⟩|⟨i,o,cap,ex,d,m,e,a,aM,fz,rfl,hg,f,hl,g,hi,c⟩;·have:b=0:=af;subst this;exact .inl ⟨rfl,rfl,aB⟩
 have cA:b*size<=n*size:=aky _ hb;refine .inr ⟨i,o,cap,ex,d,m,e,a,aM,fz,rfl,hg,af,?_,λj hj=>?_,hi,af⟩;all_goals grind
theorem RO.pc{x y:aJ}{b:Nat}(hs:Sl B size vs n sv)(h:RO ac c l s (bC L d (Go.am.pc sv b)) H)(a:bf L x=sv:=by exact cw)(f:bf L y=.int k (.ofNat b):=by exact cw)(hb:b<=n:=by omega):RO ac c (⟨d,.im e size x none (some y) none,none,[],[]⟩::l) s L H:=by
 rcases hs with⟨rfl,rfl,rfl⟩|⟨i,o,cap,ex,p,m,q,j,aM,fz,rfl,hg,r,hl,t,hi,g⟩;·have:b=0:=af;subst this;refine RO.Cb (m:=0) (b:=0) (a:=0) a rfl ?_ rfl h;simp only[l7,f];rfl
 refine RO.im (m:=cap) (b:=b) (a:=0) a rfl ?_ rfl aB ?_;·simp only[l7,f];exact tu af
 have e1:(if ex&&decide (cap=0)then o else o+0*size)=o:=by split<;>omega
 rw[e1,alJ,alJ,Option.isSome_none,Bool.or_false];exact h
theorem RO.Jd{g:Type}{R:ai->g->List AV->Prop}{a:List g}(hg:bm B H){x y:aJ}{j kd:Nat}(hs:dV size R B a sv)(h:∀q o cs(hj:j<a.length),R B a[j] cs->cs.length=size->(∀t v,cs[t]?=some v->∀{H'},bm B H'->bh H' q (o+t)=some v)->RO ac c l s (bC L d (.az q o)) H)(k:bf L x=sv:=by exact cw)(m:bf L y=.int kd (.ofNat j):=by exact cw)(hj:j<a.length:=by first|assumption|omega):RO ac c (⟨d,.dG size x y,none,[],[]⟩::l) s L H:=by
 obtain⟨q,o,cap,ex,cs,rfl,h1,h2,h3,p⟩:=hs.at hj;have b:q.an<B.next.an:=by
  obtain⟨vs,n,_⟩:=hs;rcases n with⟨h,_⟩|⟨i,_,_,_,_,_,_,_,_,_,h,_,_,_,_,hi,_⟩;·cases h
  injection h with h;subst h;exact hi
 exact RO.dG (h q (o+j*size) cs hj h1 h2 λt v e H' f=>by rw[f.bh b];exact h3 t v e) k m hj
end
section
variable{ac:Nat->aG}{c:Cx}{s:List SI}{L:Kn}{A B H H':ai}{d:Option ab}{l:List be}{ts us:List Th}{q r:ab}{e n m o k i bytes:Nat}{vs:List AV}{v w sv:AV}
def tU(e:Nat)(vs:List AV)(sv:AV):Th where
 P H b:=∃i off ex c m aM,b=i::aM/\sv=.slice i off vs.length vs.length ex/\H.get i=.cells c m e true aM 0/\(ex=true\/m=off+vs.length)/\off+vs.length<=m/\(∀j(h:j<vs.length),c.bw .alR (off+j)=vs[j])/\∀p∈b,p.an<H.next.an
 fr h g hg:=by
  obtain⟨i,off,ex,c,m,aM,rfl,h1,h2,h3,d,f,a⟩:=h
  exact⟨i,off,ex,c,m,aM,rfl,h1,by rw[hg i (aeU ..)];exact h2,h3,d,f,λp k=>ako (a p k) g⟩
 lt h:=by
  obtain⟨i,off,ex,c,m,aM,rfl,h1,h2,h3,d,f,a⟩:=h
  exact a
theorem tU.sl{a:List ab}(h:(tU e vs sv).P H a):Sl H 1 vs vs.length sv:=by obtain⟨i,off,ex,c,m,aM,rfl,h1,h2,h3,f,b,d⟩:=h;exact .inr ⟨i,off,_,ex,c,m,e,true,aM,0,h1,h2,af,(alt _).symm,b,d i (aeU ..),afb _⟩
theorem aj.OS(U:aj A H ts)(i:Nat)(hi:ts[i]?=some (tU e vs sv):=by rfl):Sl H 1 vs vs.length sv:=by obtain⟨b,a⟩:=U.get i hi;exact tU.sl a
theorem aj.toU(U:aj A H ts)(i:Nat)(hi:ts[i]?=some (tS e 1 vs vs.length true (.slice q 0 vs.length vs.length true))):aj A H (ts.set i (tU e vs (.slice q 0 vs.length vs.length true))):=by
 refine U.as i hi λk a=>?_;rcases a with⟨_,_,_,h⟩|⟨l,d,aM,cap,f,rfl,h2,hg,c,g,m,a,b⟩;·grind
 injection h2 with h2 _ _ h3 n;subst h2;exact⟨q,0,true,d,_,aM,rfl,rfl,hg,.inl rfl,af,λj hj=>by grind,a⟩
theorem RO.aee(U:aj A H ts)(i:Nat){x:aJ}(h:∀a,aj A H (ts.set i (tU e vs a))->a.bB=true->a.ee=true->a.cells=[a]->RO ac c l s (bC L d a) H)(hi:ts[i]?=some (tU e (v::vs) sv):=by rfl)(b:bf L x=sv:=by exact cw):RO ac c (⟨d,.im e 1 x (some (.c (.int 3 (.ofNat 1)))) none none,none,[],[]⟩::l) s L H:=by
 obtain⟨r,f,_,hu⟩:=U.ki i hi;obtain⟨j,off,ex,g,m,aM,rfl,h1,h2,h3,k,n,o⟩:=f;subst h1;have q:sM H j e=true:=by simp only[sM,h2,ald]
 refine RO.HW (m:=vs.length+1) (b:=vs.length+1) (a:=1) b rfl rfl (by rfl) (by grind) (v:=.slice j (if ex&&decide (vs.length+1=1)then off else off+1*1) vs.length vs.length ex) aB ?_;refine h _ (hu (t':=tU e vs _) (oS.refl _ H) ⟨j,_,ex,g,m,aM,rfl,rfl,h2,?_,?_,λt p=>?_,o⟩) rfl rfl rfl;·grind
 .simp only[akA]at k;split<;>omega
 split;·grind
 have:=n (t+1) (by simpa using p);grind
theorem RO.aef(U:aj A H ts)(i:Nat){p:ab}{x:aJ}{C:List (Nat×Nat×aJ)}{D v:List AV}(w:AV)(h:∀u H' b,aj A H' (ts.set i (tU e (vs++[w]) b))->b.bB=true->b.ee=true->b.cells=[b]->RO ac c l s (bC ((p,u)::L) d b) H')(hi:ts[i]?=some (tU e vs sv):=by rfl)(hl:qO L (fO D 1) C=some [w]:=by exact cw)(h1:w.ee=true:=by first|rfl|assumption)(E:∀u,bf ((p,u)::L) x=sv:=by(intro u;conv=>lhs;whnf)<;>rfl)(hb:(vs.length+1)*bytes<=70368744177664:=by omega)(hn:vs.length+1<=70368744177664:=by omega):RO ac c (⟨some p,.buildSlice e 1 D C,none,[],[]⟩::⟨d,.append e bytes 1 v false x (.t p),none,[],[]⟩::l) s L H:=by
 have g:dS [w]=true:=by simp[dS,h1]
 refine RO.buildSlice ?_ hl g;have hg:bm H (H.new (.cells (db [w]) [w].length e true [] 0)):=bm.new H _;have y:=U.cI hg;have hs:Sl (H.new (.cells (db [w]) [w].length e true [] 0)) 1 [w] 1 (.slice H.next 0 1 1 true):=(dU.new (H:=H) (e:=e) (size:=1) (n:=1) (vs:=[w]) rfl true true).sl;generalize O:H.new (.cells (db [w]) [w].length e true [] 0)=H1 at*;obtain⟨Q,a,_,hu⟩:=y.ki i hi;obtain⟨j,off,ex,r,m,aM,rfl,G,F,I,J,K,M⟩:=a;subst G;have n:(!(fw ((vs.length+1)*bytes)&&fw (vs.length+1)))=false:=by rw[ww hb,ww hn];rfl
 have o:ak2 (vs.length+1) vs.length=false:=by cases z:ak2 (vs.length+1) vs.length with|false=>rfl|true=>have:=akc z;omega
 have hrd:iI r m off (vs.length*1)=some vs:=by have:=yh (c:=r) (n:=m) (l:=vs) (o:=off) J K;rw[alt];exact this
 have f:∀j(hj:j<(vs++[w]).length),(db (vs++[w])).bw .alR (0+j)=(vs++[w])[j]:=λj hj=>by rw[akh];exact Ao hj
 cases q:ex with
 |true=>subst q;refine RO.append (r:=(.slice H1.next 0 (vs.length+1) (vs.length+1) false,H1.new (.cells (db (vs++[w])) ((vs.length+1)*1) e true [] 0))) hs.je (by simp only[kI,g,aku,aes,bP,o,n,F,hrd,bq]) (h _ _ _ (hu (fp':=[H1.next]) (t':=tU e (vs++[w]) _) ⟨(bm.new H1 _).nx,λp a=>.inr (by rw[aep]at a;subst a;exact afb _),λp _ a=>(bm.new H1 _).dT p a⟩ ⟨H1.next,0,false,_,_,[],rfl,aB,by rw[ai.dJ,aK rfl],.inr aB,aB,f,λp a=>by rw[aep]at a;subst a;rw[ai.nK];omega⟩) rfl rfl rfl) (E _) rfl (by show lk (bC L (some p) _) p=_;simp only[bC,lk,ab.ip.2 rfl]) rfl
 |false=>
  subst q;have N:m=off+vs.length:=by rcases I with h|h;cases h;exact h
  have k:(true&&akb vs.length vs.length&&akb (off+vs.length*1) m&&akb e e&&ak2 0 m)=true:=by rw[N,alt];simp[ald]
  refine RO.append (r:=(.slice H1.next 0 (vs.length+1) (vs.length+1) false,(H1.set j (.cells r m e false aM 0)).new (.cells (db (vs++[w])) ((vs.length+1)*1) e true (j::aM) (0 - off)))) hs.je (by simp only[kI,g,aku,aes,bP,o,n,F,hrd,k,bq]) (h _ _ _ (hu (fp':=H1.next::j::aM) (t':=tU e (vs++[w]) _) ⟨by rw[ai.nK,ai.gD];omega,λp a=>?_,λp a P=>?_⟩ ⟨H1.next,0,false,_,_,j::aM,rfl,aB,by rw[ai.dJ,ai.gD,aK rfl,Nat.zero_sub],.inr aB,aB,f,λp a=>?_⟩) rfl rfl rfl) (E _) rfl (by show lk (bC L (some p) _) p=_;simp only[bC,lk,ab.ip.2 rfl]) rfl
  .rcases aeV.1 a with rfl|a;·exact .inr (afb _)
   exact .inl a
  .rw[ai.dJ,ai.gD,aq (cG af),ai.aF,aq λe:p=j=>a (by rw[e];exact aeU ..)]
  rw[ai.nK,ai.gD];rcases aeV.1 a with rfl|a;·omega
  have:=M p a;omega
end
section
variable{ac:Nat->aG}{c:Cx}{s:List SI}{L:Kn}{A B H H':ai}{d:Option ab}{l:List be}{ts us:List Th}{q r:ab}{e n m o k i cap:Nat}{vs:List AV}{v w sv:AV}{full ex:Bool}
theorem RO.yK(U:aj A H ts)(i:Nat)(f:vs.length=n){a x:aJ}(h:∀H',aj A H' (ts.set i (tS e 1 (vs.set k w) n full (.slice q 0 n cap ex)))->RO ac c l s (bC L d .alR) H')(g:bf L a=.az q (0+k*1):=by exact cw)(j:bf L x=w:=by exact cw)(hi:ts[i]?=some (tS e 1 vs n full (.slice q 0 n cap ex)):=by rfl)(ho:k<vs.length:=by first|omega|assumption)(m:w.ee=true:=by first|rfl|assumption)(o:w.cells=[w]:=by first|rfl|assumption)(hd:w.bB=true:=by first|rfl|assumption):RO ac c (⟨d,.store 1 a x,none,[],[]⟩::l) s L H:=by have e1:vs.map id=vs:=List.map_id vs;refine RO.lC (f:=id) (zs:=vs) U i w f (λH' b=>h H' ?_) g j (by rw[e1];exact hi) ho m o hd;rw[List.map_id]at b;exact b
end
section
variable{ac:Nat->aG}{c:Cx}{s:List SI}{L:Kn}{A B H H':ai}{d:Option ab}{l:List be}{ts us:List Th}{q r:ab}{e n m o k i cap size:Nat}{vs:List AV}{v w sv:AV}{full ex:Bool}
theorem aeg{v:AV}{i:ab}(h:jq v=some i):v.bB=true:=by cases v<;>first|rfl|cases h
def yL(L:Kn):List ab->List (Option ab)
 |[]=>[]
 |p::a=>jq (lk L p)::yL L a
theorem CG{aa:ap AV}(a:Le L aa):∀{ps is:List ab}{H:ai},yL L ps=is.map some->(eV aa H ps).1.next=H.next/\(∀j,j∉is->(eV aa H ps).1.get j=H.get j)/\∀H1,(eB H1 (eV aa H ps).2).next=H1.next/\∀j,(eB H1 (eV aa H ps).2).get j=if j∈is then H.get j else H1.get j
 |[],[],H,_=>⟨rfl,λ_ _=>rfl,λH1=>⟨rfl,λj=>by rfl⟩⟩
 |[],_::_,H,h=>by trivial
 |_::_,[],H,h=>by trivial
 |p::ps,i::is,H,h=>by
  simp only[yL,aj7,akn]at h;have e1:aa.get .alR p=lk L p:=a.get rfl (aeg h.1);obtain⟨h1,h2,h3⟩:=CG a (ps:=ps) (is:=is) (H:=H.set i .none) h.2;simp only[eV,e1,h.1];refine⟨h1,λj hj=>?_,λH1=>⟨?_,λj=>?_⟩⟩;·simp_all[aey,ai.aF,aq,aeU]
  .exact(h3 H1).1
  simp only[eB,ai.aF];by_cases b:j=i;all_goals simp[b,h3,aq,aeV,false_or,ai.aF,bP]
theorem Fs.move{A a H H':ai}(c:H'.next=H.next)(b:a.next.an=A.next.an)(hg:∀j,A.next.an<=j.an->H'.get j=H.get j):∀{fs:List (List ab)}{ts:List Th},Fs A H fs ts->Fs a H' fs ts|[],[],_=>trivial|[],_::_,h=>h.elim|_::_,[],h=>h.elim|f::fs,t::ts,⟨h1,h2,h3,d⟩=>⟨t.fr h1 (by grind) λj hj=>hg j (h2 j hj),λj hj=>by rw[b];exact h2 j hj,h3,Fs.move c b hg d⟩
theorem aj.show{c H1 d:ai}{is:List ab}(a:c.next=H.next)(h0:∀j,j∉is->c.get j=H.get j)(f:∀j∈is,j.an<H.next.an)(b:d.next=H1.next)(hu:∀j,d.get j=if j∈is then H.get j else H1.get j)(U:aj c H1 us):aj H d us:=by
 obtain⟨hg,fs,g⟩:=U;refine⟨⟨by rw[b,<-a];exact hg.nx,λj hj=>?_⟩,fs,g.move b (by rw[a]) λj hj=>?_⟩
 .rw[hu];split;·rfl
  rename_i e;rw[hg.dT j (by rw[a];exact hj),h0 j e]
 rw[hu,aq λe=>?_];have:=f j e;rw[a]at hj;omega
theorem RO.CH{f:aJ}{args:List aJ}{fv:AV}{i:List AV}{u is:List ab}{re:List jo}{Q:AV->List Th->Prop}(U:aj A H ts)(w:∀j∈is,j.an<H.next.an)(g:∀q,q.next=H.next->(∀j,j∉is->q.get j=H.get j)->YF ac fv i q λv H1=>∃e,aj q H1 e/\Q v e)(h:∀v e r,Q v e->bm H r->aj A r (e++ts)->(∀aa,Le (bC L d v) aa->fG aa r re=true)/\RO ac c l s (bC L d v) r)(D:yL L u=is.map some:=by exact cw)(E:bf L f=fv:=by exact cw)(y:fv.bB=true:=by first|rfl|assumption)(F:args.map (bf L)=i:=by rfl)(z:i.all AV.bB=true:=by repeat first|rfl|assumption|(refine ad ?_ ?_)):RO ac c (⟨d,.call f args,none,u,re⟩::l) s L H:=λaa b=>by
 have C:args.map (gv aa)=i:=by subst F;refine alk λx G=>?_;exact b.gv rfl (aln.1 z _ (akp G))
 obtain⟨h1,h2,h3⟩:=CG b (H:=H) D;generalize I:eV aa H u=a at h1 h2 h3;have key:YF ac fv i a.1 λv H1=>fG (aQ aa d v) (eB H1 a.2) re=true/\∃n,Xo ac n l ⟨aQ aa d v,c.M,c.R⟩ (eB H1 a.2) (kh ac c.K s .none):=by refine(g a.1 h1 h2).mono λv H1 t=>?_;obtain⟨e,hl,J⟩:=t;obtain⟨N,O⟩:=h3 H1;have o:=hl.show h1 h2 w N O;obtain⟨P,S⟩:=h v e _ J o.gr (U.fC o);exact⟨P _ (b.set d v),S _ (b.set d v)⟩
 obtain⟨n,T⟩:=key;obtain⟨m,k⟩:=(Ad ac n).call (K:=λm v H1=>fG (aQ aa d v) (eB H1 a.2) re=true/\Xo ac m l ⟨aQ aa d v,c.M,c.R⟩ (eB H1 a.2) (kh ac c.K s .none)) (λm V v H k h=>⟨h.1,h.2.mono k λ_ _ h=>h⟩) ((mono ac n).call (afb _) (λv H1 t=>t.2.imp λm k=>⟨t.1,k⟩) T);refine⟨max n m+1,?_⟩;simp only[Xo,Go.am.aC,fF,bq,I];rw[b.gv E y,C];refine(show Xf ac n fv i _ _ from k).mono (Nat.le_max_left ..) λv H1 p=>?_;rw[aK p.1];exact(show Xo ac m l _ _ _ from p.2).mono (Nat.le_max_right ..) λ_ _ h=>h
theorem RO.wO{x:aJ}{g is:List ab}(r:bh H q o=some v)(m:q∉is)(h:∀i,(∀j,i.get j=H.get j)->i.next=H.next->RO ac c l s (bC L d v) i)(t:bf L x=.az q o:=by exact cw)(u:yL L g=is.map some:=by exact cw):RO ac c (⟨d,.aW x,none,g,[]⟩::l) s L H:=λaa e=>by
 obtain⟨h1,h2,h3⟩:=CG e (H:=H) u;generalize w:eV aa H g=b at h1 h2 h3;obtain⟨y,z⟩:=h3 b.1;have f:∀j,(eB b.1 b.2).get j=H.get j:=λj=>by
  rw[z];split;·rfl
  rename_i k;exact h2 j k
 obtain⟨n,k⟩:=h _ f (y.trans h1) _ (e.set d v);refine⟨n+1,?_⟩;have a:bh b.1 q o=some v:=by simp only[bh,h2 q m];exact r
 have he:aE (.aW x) aa b.1=some (v,b.1):=by
  simp only[aE,e.gv t rfl];unfold bh at a;split at a
  .rename_i cc n _ _ _ _ hg;split at a;·rename_i hb;injection a with a;have p:o<n:=akY.mp hb;simp only[jp,fE,hg,iI,aK p,a,aes,bP];rfl
   cases a
  cases a
 simp[w,he,k,Xo,Go.am.aC,fF,bq,fG]
theorem aj.AU(U:aj A H ts)(i:Nat)(hi:ts[i]?=some (tB e q vs):=by rfl):A.next.an<=q.an/\q.an<H.next.an:=by obtain⟨c,a,b,_⟩:=U.ki i hi;exact⟨b q a.1,a.2.2.elim λ_ h=>h.2.2⟩
theorem aj.CI(U:aj A H ts)(i:Nat)(hi:ts[i]?=some (tS e size vs n full (.slice q o m cap ex)):=by rfl):A.next.an<=q.an/\q.an<H.next.an:=by
 obtain⟨d,a,b,_⟩:=U.ki i hi;have hb:=dU.below a;rcases a with⟨_,_,_,h⟩|⟨f,g,aM,cap,c,rfl,h2,_⟩;·grind
 injection h2 with h2;subst h2;exact⟨b _ (aeU ..),hb _ (aeU ..)⟩
end
end Go.am
end
