/- A part of the proof. No conditions. -/
import Derived.Test.YtjhkgigolpfcfaaGreatDoorA03
import Derived.Test.YtjhkgigolpfcfaaGreatDoorProg
import Derived.KernelRfl
set_option linter.all false
open Option.some renaming injEq->adG
open List renaming mem_singleton->aep,mem_cons_of_mem->aey,mem_cons_self->aeU,replicate->ahr,length_map->akg,length_cons->akA,length_singleton->akC,length_take->akF,getElem?_cons_succ->ak6,length_drop->alC
open Nat renaming eq_of_beq_eq_true->aj4,beq->akb,le_of_ble_eq_true->akc,blt->akv,ble_eq_true_of_le->akB,blt_eq->akY,ble->ak2,le_trans->alj,add_assoc->alo,min_eq_left->aly
open Int renaming ofNat->ak1
open Eq renaming mpr->alN
noncomputable section
namespace Go.am
section
theorem cw{c:Type}{a b:c}(h:a=b:=by(conv=>lhs;whnf)<;>rfl):a=b:=h
theorem fB{p:Prop}(h:p:=by repeat'(first|exact trivial|refine⟨rfl,?_⟩)):p:=h
variable{ac:Nat->aG}
abbrev Kn:=List (ab×AV)
def lk:Kn->ab->AV
 |[],_=>.co
 |(q,v)::l,p=>match ab.beq q p with
  |true=>v
  |false=>lk l p
def Le(L:Kn)(aa:ap AV):Prop:=∀p v,lk L p=v->v=.co\/aa.get .alR p=v
def bf(L:Kn):aJ->AV
 |.t p=>lk L p
 |.c v=>v
def bC(L:Kn)(d:Option ab)(v:AV):Kn:=
 match d with
 |some p=>(p,v)::L
 |none=>L
theorem Le.get{L:Kn}{aa:ap AV}(h:Le L aa){p:ab}{v:AV}(b:lk L p=v)(a:v.bB=true):aa.get .alR p=v:=by
 rcases h p v b with e|e;·rw[e]at a;cases a
 exact e
theorem Le.gv{L:Kn}{aa:ap AV}(h:Le L aa){x:aJ}{v:AV}(a:bf L x=v)(b:v.bB=true):gv aa x=v:=by cases x with|t p=>exact h.get a b|c w=>trivial
theorem Le.set{L:Kn}{aa:ap AV}(h:Le L aa)(d:Option ab)(v:AV):Le (bC L d v) (aQ aa d v):=by cases d with|none=>exact h|some p=>intro q w a;simp only[bC,aQ,lk]at a⊢;rw[ap.aF];cases hb:ab.beq p q with|true=>rw[hb]at a;rw[aK (ab.ip.1 hb).symm];exact .inr a|false=>rw[hb]at a;rw[aq λe=>by rw[e,ab.ip.2 rfl]at hb;cases hb];exact h q w a
def ky:Kn->Kn->Prop
 |[],_=>True
 |(p,v)::l,m=>lk m p=v/\ky l m
theorem ky.get:∀{l m:Kn},ky l m->∀p v,lk l p=v->v=.co\/lk m p=v|[],_,_,p,v,h=>.inl h.symm|(q,w)::l,m,h,p,v,a=>by simp only[lk]at a;cases hb:ab.beq q p with|true=>rw[hb]at a;rw[<-ab.ip.1 hb];exact .inr (h.1.trans a)|false=>rw[hb]at a;exact ky.get h.2 p v a
theorem Le.rZ{L M:Kn}{aa:ap AV}(h:ky L M)(a:Le M aa):Le L aa:=λp v b=>by
 rcases h.get p v b with e|e;·grind
 exact a p v e
inductive SI where
 |code(c:bt)
 |aH(id:Nat)
structure Cx where
 K:cP->Fr->ai->Prop
 M:List ab
 R:Option ab
def kh(ac:Nat->aG)(K:cP->Fr->ai->Prop):List SI->cP->Fr->ai->Prop
 |[],j,fr,H=>K j fr H
 |.code c::s,j,fr,H=>match j with
  |.none=>∃n,Xc ac n c fr H (kh ac K s)
  |j=>kh ac K s j fr H
 |.aH id::s,j,fr,H=>match j with
  |.exit i=>if akb i id then kh ac K s .none fr H else kh ac K s (.exit i) fr H
  |j=>kh ac K s j fr H
def RJ(ac:Nat->aG)(c:Cx)(j:cP)(s:List SI)(L:Kn)(H:ai):Prop:=∀aa,Le L aa->kh ac c.K s j ⟨aa,c.M,c.R⟩ H
def Ru(ac:Nat->aG)(c:Cx)(s:List SI)(L:Kn)(H:ai):Prop:=RJ ac c .none s L H
def RO(ac:Nat->aG)(c:Cx)(l:List be)(s:List SI)(L:Kn)(H:ai):Prop:=∀aa,Le L aa->∃n,Xo ac n l ⟨aa,c.M,c.R⟩ H (kh ac c.K s .none)
def YF(ac:Nat->aG)(f:AV)(args:List AV)(H:ai)(K:KT):Prop:=∃n,Xf ac n f args H K
abbrev YN(ac:Nat->aG)(f:Nat):=YF ac (.func f [] [])
variable{c:Cx}{s:List SI}{L:Kn}{H:ai}
theorem Ru.rZ{M:Kn}(h:Ru ac c s L H)(hl:ky L M):Ru ac c s M H:=λaa a=>h aa (a.rZ hl)
theorem YF.mono{f:AV}{args:List AV}{K a:KT}(h:YF ac f args H K)(b:∀v H,K v H->a v H):YF ac f args H a:=by obtain⟨n,h⟩:=h;exact⟨n,h.mono (afb _) b⟩
theorem mC{n:Nat}{a:bt}{s:List SI}{b:bt}{fr:Fr}{K:cP->Fr->ai->Prop}(h:Xc ac n a fr H (kh ac K (.code b::s))):∃k,Xc ac k a fr H λj fr H=>match j with|.none=>Xc ac k b fr H (kh ac K s)|j=>kh ac K s j fr H:=by obtain⟨m,d⟩:=(Ad ac n).exec (K:=λm j fr H=>match j with|.none=>Xc ac m b fr H (kh ac K s)|j=>kh ac K s j fr H) (λm e j fr H c hj=>by cases j with|none=>exact hj.mono c λ_ _ _ h=>h|exit i=>omega|ret=>omega) ((mono ac n).exec (afb _) (λj fr H hj=>by cases j with|none=>trivial|exit i=>exact⟨0,hj⟩|ret=>exact⟨0,hj⟩) h);refine⟨max n m,(show Xc ac n a fr H _ from d).mono (Nat.le_max_left ..) λj fr H hj=>?_⟩;cases j with|none=>exact(show Xc ac m b fr H _ from hj).mono (Nat.le_max_right ..) λ_ _ _ h=>h|exit i=>omega|ret=>omega
theorem Ru.seq{a b:bt}(h:Ru ac c (.code a:: .code b::s) L H):Ru ac c (.code (.seq a b)::s) L H:=λaa d=>by obtain⟨n,e⟩:=h aa d;obtain⟨k,f⟩:=mC e;exact⟨k+1,Xc.seq f⟩
theorem Ru.loop{b:bt}(h:Ru ac c (.code b:: .code (.loop b)::s) L H):Ru ac c (.code (.loop b)::s) L H:=λaa a=>by obtain⟨n,d⟩:=h aa a;obtain⟨k,e⟩:=mC d;exact⟨k+1,Xc.loop e⟩
theorem Ru.region{l:List be}(h:RO ac c l s L H):Ru ac c (.code (.region l)::s) L H:=λaa a=>by obtain⟨n,b⟩:=h aa a;exact⟨n+1,Xc.region b⟩
theorem Ru.skip(h:Ru ac c s L H):Ru ac c (.code .skip::s) L H:=λaa a=>⟨1,Xc.skip (h aa a)⟩
theorem Ru.block{id:Nat}{b:bt}(h:Ru ac c (.code b:: .aH id::s) L H):Ru ac c (.code (.block id b)::s) L H:=λaa a=>by obtain⟨n,d⟩:=h aa a;exact⟨n+1,Xc.block (d.mono (afb _) λj fr H hj=>by cases j<;>exact hj)⟩
theorem Ru.pp{x:aJ}{a b:bt}(h:Ru ac c (.code a::s) L H)(e:bf L x=.bool true:=by exact cw):Ru ac c (.code (.cond x a b)::s) L H:=λaa d=>by obtain⟨n,f⟩:=h aa d;exact⟨n+1,Xc.pp (d.gv e rfl) f⟩
theorem Ru.nI{x:aJ}{a b:bt}(h:Ru ac c (.code b::s) L H)(e:bf L x=.bool false:=by exact cw):Ru ac c (.code (.cond x a b)::s) L H:=λaa d=>by obtain⟨n,f⟩:=h aa d;exact⟨n+1,Xc.nI (d.gv e rfl) f⟩
theorem Ru.kN{x:aJ}{a b:bt}{t:Bool}(h1:t=true->Ru ac c (.code a::s) L H)(h2:t=false->Ru ac c (.code b::s) L H)(d:bf L x=.bool t:=by exact cw):Ru ac c (.code (.cond x a b)::s) L H:=by cases t with|true=>exact Ru.pp (h1 rfl) d|false=>exact Ru.nI (h2 rfl) d
theorem Ru.cond{x:aJ}{a b:bt}{p:Prop} [Decidable p](h1:p->Ru ac c (.code a::s) L H)(h2:¬p->Ru ac c (.code b::s) L H)(d:bf L x=.bool (decide p):=by exact cw):Ru ac c (.code (.cond x a b)::s) L H:=Ru.kN (λh=>h1 (of_decide_eq_true h)) (λh=>h2 (of_decide_eq_false h)) d
theorem Ru.exit{id:Nat}(h:RJ ac c (.exit id) s L H):Ru ac c (.code (.exit id)::s) L H:=λaa a=>⟨1,Xc.exit (h aa a)⟩
theorem Ru.ret(h:RJ ac c .ret s L H):Ru ac c (.code .ret::s) L H:=λaa a=>⟨1,Xc.ret (h aa a)⟩
theorem Ru.aH{id:Nat}(h:Ru ac c s L H):Ru ac c (.aH id::s) L H:=h
theorem RJ.code{a:bt}{i:Nat}(h:RJ ac c (.exit i) s L H):RJ ac c (.exit i) (.code a::s) L H:=h
theorem RJ.VV{i:Nat}(h:Ru ac c s L H):RJ ac c (.exit i) (.aH i::s) L H:=λaa a=>by simp only[kh,ald,bq];exact h aa a
theorem RJ.VW{i id:Nat}(hi:akb i id=false)(h:RJ ac c (.exit i) s L H):RJ ac c (.exit i) (.aH id::s) L H:=λaa a=>by simp only[kh,hi,aes,bP];exact h aa a
theorem RJ.VX{a:bt}(h:RJ ac c .ret s L H):RJ ac c .ret (.code a::s) L H:=h
theorem RJ.VY{id:Nat}(h:RJ ac c .ret s L H):RJ ac c .ret (.aH id::s) L H:=h
theorem RJ.wp:∀{s:List SI},RJ ac c .ret [] L H->RJ ac c .ret s L H|[],h=>h|.code _::_,h=>RJ.VX (RJ.wp h)|.aH _::_,h=>RJ.VY (RJ.wp h)
def B9(i:Nat):List SI->Option (List SI)
 |[]=>none
 |.code _::s=>B9 i s
 |.aH id::s=>if akb i id then some s else B9 i s
theorem RJ.HQ{i:Nat}:∀{s t:List SI},B9 i s=some t->Ru ac c t L H->RJ ac c (.exit i) s L H
 |[],_,h,_=>by cases h
 |.code _::s,t,h,k=>RJ.code (RJ.HQ h k)
 |.aH id::s,t,h,k=>by
  simp only[B9]at h;split at h;·simp_all[aj4,RJ.VV]
  rename_i e;exact RJ.VW (by grind) (RJ.HQ h k)
theorem Ru.exitTo{i:Nat}{t:List SI}(k:Ru ac c t L H)(h:B9 i s=some t:=by rfl):Ru ac c (.code (.exit i)::s) L H:=Ru.exit (RJ.HQ h k)
theorem RO.nil(h:Ru ac c s L H):RO ac c [] s L H:=λaa a=>⟨1,Xo.nil (h aa a)⟩
theorem RO.op{d:Option ab}{op:bW}{l:List be}{v:AV}{H':ai}(he:∀aa,Le L aa->aE op aa H=some (v,H'))(h:RO ac c l s (bC L d v) H'):RO ac c (⟨d,op,none,[],[]⟩::l) s L H:=λaa a=>by obtain⟨n,b⟩:=h _ (a.set d v);exact⟨n+1,Xo.op (he aa a) b⟩
theorem RO.call{d:Option ab}{f:aJ}{args:List aJ}{l:List be}{fv:AV}{e:List AV}(h:YF ac fv e H λv b=>RO ac c l s (bC L d v) b)(o:bf L f=fv:=by exact cw)(i:fv.bB=true:=by first|rfl|assumption)(p:args.map (bf L)=e:=by rfl)(j:e.all AV.bB=true:=by first|rfl|assumption):RO ac c (⟨d,.call f args,none,[],[]⟩::l) s L H:=λaa a=>by
 obtain⟨n,q⟩:=h;have k:args.map (gv aa)=e:=by subst p;refine alk λx r=>?_;exact a.gv rfl (aln.1 j _ (akp r))
 obtain⟨m,g⟩:=(Ad ac n).call (K:=λm v b=>Xo ac m l ⟨aQ aa d v,c.M,c.R⟩ b (kh ac c.K s .none)) (λm u v H g h=>h.mono g λ_ _ h=>h) ((mono ac n).call (afb _) (λv b t=>t _ (a.set d v)) q);refine⟨max n m+1,Xo.call ?_⟩;rw[a.gv o i,k];exact(show Xf ac n fv e H _ from g).mono (Nat.le_max_left ..) λv b h=>(show Xo ac m l _ b _ from h).mono (Nat.le_max_right ..) λ_ _ h=>h
def pu(a:List iW)(K:KT)(j:cP)(fr:Fr)(H:ai):Prop:=
 match j with
 |.exit _=>False
 |_=>match jN H fr.bI with
  |some H=>match gZ fr.aa H a with
   |some l=>K (iL l) H
   |none=>False
  |none=>False
abbrev wt(a:List iW)(K:KT):Cx:=⟨pu a K,[],none⟩
theorem Nw:∀(l:List AV)(p q:ab)(t:ap AV),(kJ l p t).get .alR q=if p.an<=q.an/\q.an<p.an+l.length then l.getD (q.an - p.an) .alR else t.get .alR q
 |[],p,q,t=>by simp[kJ,List.length_nil,aq]
 |v::l,p,q,t=>by
  simp only[kJ];rw[Nw l p.succ q (t.set .alR p v),ab.gK,ap.aF];simp only[akA];by_cases h1:p.an+1<=q.an/\q.an<p.an+1+l.length;·grind
  rw[aq h1];by_cases h2:q=p;·grind
  rw[aq h2,aq];grind[ab.uC]
def wu:List AV->Nat->Kn
 |[],_=>[]
 |v::l,k=>(ab.dF k,v)::wu l (k+1)
theorem Le.wu:∀(l:List AV)(k:Nat)(aa:ap AV),(∀i(h:i<l.length),aa.get .alR (ab.dF (k+i))=l[i])->Le (wu l k) aa|[],_,_,_=>λp v h=>.inl h.symm|w::l,k,aa,h=>λp v a=>by simp only[Go.am.wu,lk]at a;cases hb:ab.beq (ab.dF k) p with|true=>rw[hb]at a;rw[<-ab.ip.1 hb,<-a];exact .inr (h 0 aB)|false=>rw[hb]at a;exact Le.wu l (k+1) aa (λi hi=>by have:=h (i+1) (by simpa using hi);grind) p v a
theorem Le.args(l:List AV):Le (Go.am.wu l 0) (kJ l .xH .aL):=Le.wu l 0 _ λi hi=>by rw[Nw,ab.ml,akh,aK (by grind[ab.an])];simp[hi,ab.an,Nat.add_sub_cancel,akm,getElem?_pos,akQ]
theorem YF.code{f a:Nat}{b:List iW}{body:bt}{fs as_ cs:List AV}{K:KT}(c:ac f=.code a b body)(hl:(fs++as_++cs).length<=a)(h:Ru ac (wt b K) [.code body] (wu (fs++as_++cs) 0) H):YF ac (.func f fs cs) as_ H K:=by obtain⟨n,d⟩:=h _ (Le.args (fs++as_++cs));refine⟨n+1,?_⟩;simp only[Xf,io,c];rw[aK (akB hl)];refine Xc.mono (afb _) (λj fr H hj=>?_) d;cases j with|exit i=>exact hj|none=>exact hj|ret=>exact hj
theorem YF.ix{f:Nat}{g:List AV->ai->Option (AV×ai)}{fs as_ cs:List AV}{v:AV}{H':ai}{K:KT}(a:ac f=.ix g)(hg:g (fs++as_++cs) H=some (v,H'))(h:K v H'):YF ac (.func f fs cs) as_ H K:=by refine⟨1,?_⟩;simp_all[Xf,io]
def ye(L:Kn):List iW->List AV->Prop
 |[],[]=>True
 |.tmp p::a,v::b=>lk L p=v/\v.bB=true/\ye L a b
 |_,_=>False
theorem ye.yf{aa:ap AV}(a:Le L aa):∀{b:List iW}{c:List AV},ye L b c->gZ aa H b=some c|[],[],_=>rfl|.tmp p::b,v::c,h=>by simp only[gZ,ye.yf a h.2.2,akt,a.get h.1 h.2.1]|[],_::_,h=>h.elim|.tmp _::_,[],h=>h.elim|.cell .. ::_,[],h=>h.elim|.cell .. ::_,_::_,h=>h.elim
theorem RJ.aA{j:cP}{b:List iW}{K:KT}{vs:List AV}(hj:j=.none\/j=.ret)(c:ye L b vs)(h:K (iL vs) H):RJ ac (wt b K) j [] L H:=λaa a=>by have:=c.yf (H:=H) a;rcases hj with rfl|rfl<;>simp only[kh,pu,jN,this]<;>exact h
theorem Ru.aA{a:List iW}{K:KT}{vs:List AV}(b:ye L a vs)(h:K (iL vs) H):Ru ac (wt a K) [] L H:=RJ.aA (.inl rfl) b h
theorem Ru.mD{a:List iW}{K:KT}{vs:List AV}{s:List SI}(b:ye L a vs)(h:K (iL vs) H):Ru ac (wt a K) (.code .ret::s) L H:=Ru.ret (RJ.wp (RJ.aA (.inr rfl) b h))
theorem Ru.aV{p:ab}{K:KT}{v:AV}{s:List SI}(h:K v H)(a:lk L p=v:=by exact cw)(hd:v.bB=true:=by first|rfl|assumption):Ru ac (wt [.tmp p] K) (.code .ret::s) L H:=Ru.mD (vs:=[v]) ⟨a,hd,trivial⟩ h
theorem Ru.tk{p q:ab}{K:KT}{v w:AV}{s:List SI}(h:K (.tuple [v,w]) H)(c:lk L p=v:=by exact cw)(hd:v.bB=true:=by first|rfl|assumption)(a:lk L q=w:=by exact cw)(b:w.bB=true:=by first|rfl|assumption):Ru ac (wt [.tmp p,.tmp q] K) (.code .ret::s) L H:=Ru.mD (vs:=[v,w]) ⟨c,hd,a,b,trivial⟩ h
end
end Go.am
namespace Go.am.R
structure Kp(Q:Prop):Prop where
 q:Q
theorem au{P Q:Prop}(k:Q)(h:Kp Q->P:=by intro k;(repeat(first|refine RO.bg ?_|refine RO.j7 ?_|refine RO.Ae ?_|refine RO.lss ?_|refine RO.nil ?_|refine Ru.region ?_|refine Ru.seq ?_|refine Ru.block ?_|refine Ru.skip ?_|refine Ru.aH ?_|refine RO.Af ?_|refine RO.neq ?_|refine RO.Ag ?_|refine RO.eql ?_|refine RO.Ah ?_|refine RO.gtr ?_|refine RO.Ai ?_|refine RO.geq ?_|refine RO.Aj ?_|refine RO.leq ?_|refine RO.Ak ?_|refine RO.aW ?_|refine RO.gw ?_|refine RO.extract ?_|refine RO.un ?_|refine RO.part ?_|refine RO.qC ?_|refine RO.j6 ?_|refine RO.build ?_|refine RO.iP ?_|refine RO.lT ?_|refine Ru.pp ?_|refine Ru.nI ?_|refine RO.tm ?_|refine RO.yg ?_));exact k.1):P:=h ⟨k⟩
theorem tn{P Q:Prop}(k:Q)(h:Kp Q->P:=by intro k;(repeat(first|refine RO.bg ?_|refine RO.j7 ?_|refine RO.Ae ?_|refine RO.lss ?_|refine RO.nil ?_|refine Ru.region ?_|refine Ru.seq ?_|refine Ru.block ?_|refine Ru.skip ?_|refine Ru.aH ?_|refine RO.Af ?_|refine RO.neq ?_|refine RO.Ag ?_|refine RO.eql ?_|refine RO.Ah ?_|refine RO.gtr ?_|refine RO.Ai ?_|refine RO.geq ?_|refine RO.Aj ?_|refine RO.leq ?_|refine RO.Ak ?_|refine RO.aW ?_|refine RO.gw ?_|refine RO.extract ?_|refine RO.un ?_|refine RO.part ?_|refine RO.qC ?_|refine RO.j6 ?_|refine RO.build ?_|refine RO.iP ?_|refine RO.lT ?_|refine Ru.pp ?_|refine Ru.nI ?_|refine RO.tm ?_|refine RO.yg ?_|refine RO.B' ?_|refine RO.dG ?_|refine RO.sJ ?_|refine RO.Al ?_|refine RO.Am ?_));exact k.1):P:=h ⟨k⟩
theorem bD{P Q:Prop}(k:Q)(h:Kp Q->P:=by intro k;(repeat(first|refine RO.bg ?_|refine RO.j7 ?_|refine RO.Ae ?_|refine RO.lss ?_|refine RO.nil ?_|refine Ru.region ?_|refine Ru.seq ?_|refine Ru.block ?_|refine Ru.skip ?_|refine Ru.aH ?_|refine RO.Af ?_|refine RO.neq ?_|refine RO.Ag ?_|refine RO.eql ?_|refine RO.Ah ?_|refine RO.gtr ?_|refine RO.Ai ?_|refine RO.geq ?_|refine RO.Aj ?_|refine RO.leq ?_|refine RO.Ak ?_|refine RO.aW ?_|refine RO.gw ?_|refine RO.extract ?_|refine RO.un ?_|refine RO.part ?_|refine RO.qC ?_|refine RO.j6 ?_|refine RO.build ?_|refine RO.iP ?_|refine RO.lT ?_|refine Ru.pp ?_|refine Ru.nI ?_|refine RO.tm ?_|refine RO.yg ?_|refine RO.B' ?_|refine RO.dG ?_|refine RO.sJ ?_|refine RO.Al ?_|refine RO.Am ?_|refine RO.gU U 0 ?_|refine RO.gU U 1 ?_|refine RO.gU U 2 ?_|refine RO.gU U 3 ?_|refine RO.gU U 4 ?_|refine RO.aW ?_ (hc:=hat _ _ rfl)|refine RO.gw ?_ (hc:=hrd)|refine RO.iE ?_|refine RO.kH ?_));exact k.1):P:=h ⟨k⟩
theorem ah{P Q:Prop}(k:Q)(h:Kp Q->P:=by intro k;(repeat(first|refine RO.bg ?_|refine RO.j7 ?_|refine RO.Ae ?_|refine RO.lss ?_|refine RO.nil ?_|refine Ru.region ?_|refine Ru.seq ?_|refine Ru.block ?_|refine Ru.skip ?_|refine Ru.aH ?_|refine RO.Af ?_|refine RO.neq ?_|refine RO.Ag ?_|refine RO.eql ?_|refine RO.Ah ?_|refine RO.gtr ?_|refine RO.Ai ?_|refine RO.geq ?_|refine RO.Aj ?_|refine RO.leq ?_|refine RO.Ak ?_|refine RO.aW ?_|refine RO.gw ?_|refine RO.extract ?_|refine RO.un ?_|refine RO.part ?_|refine RO.qC ?_|refine RO.j6 ?_|refine RO.build ?_|refine RO.iP ?_|refine RO.lT ?_|refine Ru.pp ?_|refine Ru.nI ?_|refine RO.tm ?_|refine RO.yg ?_|refine RO.B' ?_|refine RO.dG ?_|refine RO.sJ ?_|refine RO.Al ?_|refine RO.Am ?_|refine RO.gU U 0 ?_|refine RO.gU U 1 ?_|refine RO.gU U 2 ?_|refine RO.gU U 3 ?_|refine RO.gU U 4 ?_|refine RO.aW ?_ (hc:=hat _ _ rfl)|refine RO.gw ?_ (hc:=hrd)|refine RO.iE ?_|refine RO.kH ?_|refine RO.nilCheck ?_|refine RO.Ca ?_|refine RO.Eh ?_));exact k.1):P:=h ⟨k⟩
theorem iS{P Q:Prop}(k:Q)(h:Kp Q->P:=by intro k;(repeat(first|refine RO.bg ?_|refine RO.j7 ?_|refine RO.Ae ?_|refine RO.lss ?_|refine RO.nil ?_|refine Ru.skip ?_|refine Ru.aH ?_|refine RO.Af ?_|refine RO.neq ?_|refine RO.Ag ?_|refine RO.eql ?_|refine RO.Ah ?_|refine RO.gtr ?_|refine RO.Ai ?_|refine RO.geq ?_|refine RO.Aj ?_|refine RO.leq ?_|refine RO.Ak ?_|refine RO.aW ?_|refine RO.gw ?_|refine RO.extract ?_|refine RO.un ?_|refine RO.part ?_|refine RO.qC ?_|refine RO.j6 ?_|refine RO.build ?_|refine RO.iP ?_|refine RO.lT ?_|refine Ru.pp ?_|refine Ru.nI ?_|refine RO.tm ?_|refine RO.yg ?_|refine RO.B' ?_|refine RO.dG ?_|refine RO.sJ ?_|refine RO.Al ?_|refine RO.Am ?_|refine RO.gU U 0 ?_|refine RO.gU U 1 ?_|refine RO.gU U 2 ?_|refine RO.gU U 3 ?_|refine RO.gU U 4 ?_|refine RO.aW ?_ (hc:=hat _ _ rfl)|refine RO.gw ?_ (hc:=hrd)|refine RO.iE ?_|refine RO.kH ?_|refine RO.nilCheck ?_|refine RO.Ca ?_|refine RO.Eh ?_));exact k.1):P:=h ⟨k⟩
theorem rR{P Q:Prop}(k:Q)(h:Kp Q->P:=by intro k;(first|refine RO.bg ?_|refine RO.j7 ?_|refine RO.Ae ?_|refine RO.lss ?_|refine RO.nil ?_|refine Ru.region ?_|refine Ru.seq ?_|refine Ru.block ?_|refine Ru.skip ?_|refine Ru.aH ?_|refine RO.Af ?_|refine RO.neq ?_|refine RO.Ag ?_|refine RO.eql ?_|refine RO.Ah ?_|refine RO.gtr ?_|refine RO.Ai ?_|refine RO.geq ?_|refine RO.Aj ?_|refine RO.leq ?_|refine RO.Ak ?_|refine RO.aW ?_|refine RO.gw ?_|refine RO.extract ?_|refine RO.un ?_|refine RO.part ?_|refine RO.qC ?_|refine RO.j6 ?_|refine RO.build ?_|refine RO.iP ?_|refine RO.lT ?_|refine Ru.pp ?_|refine Ru.nI ?_|refine RO.tm ?_|refine RO.yg ?_|refine RO.B' ?_|refine RO.dG ?_|refine RO.sJ ?_|refine RO.Al ?_|refine RO.Am ?_|refine RO.gU U 0 ?_|refine RO.gU U 1 ?_|refine RO.gU U 2 ?_|refine RO.gU U 3 ?_|refine RO.gU U 4 ?_|refine RO.aW ?_ (hc:=hat _ _ rfl)|refine RO.gw ?_ (hc:=hrd)|refine RO.iE ?_|refine RO.kH ?_|refine RO.nilCheck ?_|refine RO.Ca ?_|refine RO.Eh ?_);exact k.1):P:=h ⟨k⟩
theorem cK{P Q:Prop}(k:Q)(h:Kp Q->P:=by intro k;(repeat(first|refine RO.X1 ?_|refine RO.X2 ?_|refine rR ?_));exact k.1):P:=h ⟨k⟩
end Go.am.R
namespace Go.am
section
variable{ac:Nat->aG}{c:Cx}{s:List SI}{L:Kn}{H:ai}{d:Option ab}{l:List be}
theorem VZ{k:Nat}{n:Int}(h:(ck k).wrap n=n):iJ k n=n:=by
 unfold iJ;split;·split;all_goals trivial
 .split;·rfl
  exact h
 .split;all_goals trivial
 trivial
theorem pY{n:Int}(h1: -9223372036854775808<=n)(h2:n<9223372036854775808):iJ 3 n=n:=by cases n with|ofNat m=>rw[aj5]at h2;have:akv m 9223372036854775808=true:=alN akY af;simp only[iJ,this,bq]|negSucc m=>have:akv m 9223372036854775808=true:=alN akY af;simp[this,iJ,bq]
theorem RO.bg{x:aJ}{v:AV}(h:RO ac c l s (bC L d v) H)(b:bf L x=v:=by exact cw)(e:v.bB=true:=by first|rfl|assumption):RO ac c (⟨d,.bg x,none,[],[]⟩::l) s L H:=RO.op (λaa a=>by simp only[aE,a.gv b e]) h
theorem RO.arith{op:BinOp}{k:Nat}{x y:aJ}{a b:Int}{v:AV}(h:RO ac c l s (bC L d v) H)(f:bf L x=.int k a:=by exact cw)(g:bf L y=.int k b:=by exact cw)(hv:iK op k a b=some v:=by exact cw):RO ac c (⟨d,.arith op k x y,none,[],[]⟩::l) s L H:=RO.op (λaa e=>by simp only[aE,e.gv f rfl,e.gv g rfl,A9,ald,alK,bq,hv,akt]) h
theorem RO.add{x y:aJ}{a b:Int}(h:RO ac c l s (bC L d (.int 3 (a+b))) H)(e:bf L x=.int 3 a:=by exact cw)(f:bf L y=.int 3 b:=by exact cw)(h1: -9223372036854775808<=a+b:=by omega)(h2:a+b<9223372036854775808:=by omega):RO ac c (⟨d,.arith .add 3 x y,none,[],[]⟩::l) s L H:=RO.arith h e f (by simp[h1,h2,iK,pY])
theorem RO.Ak{x:aJ}{a b:Nat}{y:aJ}(h:RO ac c l s (bC L d (.int 3 (.ofNat (a+b)))) H)(e:bf L x=.int 3 (.ofNat a):=by exact cw)(f:bf L y=.int 3 (.ofNat b):=by exact cw)(h2:a+b<9223372036854775808:=by omega):RO ac c (⟨d,.arith .add 3 x y,none,[],[]⟩::l) s L H:=RO.add (a:=.ofNat a) (b:=.ofNat b) h e f (by grind) (by grind)
theorem RO.sub{x y:aJ}{a b:Int}(h:RO ac c l s (bC L d (.int 3 (a - b))) H)(e:bf L x=.int 3 a:=by exact cw)(f:bf L y=.int 3 b:=by exact cw)(h1: -9223372036854775808<=a - b:=by omega)(h2:a - b<9223372036854775808:=by omega):RO ac c (⟨d,.arith .sub 3 x y,none,[],[]⟩::l) s L H:=RO.arith h e f (by simp[h1,h2,iK,pY])
theorem RO.eql{k:Nat}{x y:aJ}{a b:Int}(h:RO ac c l s (bC L d (.bool (decide (a=b)))) H)(e:bf L x=.int k a:=by exact cw)(f:bf L y=.int k b:=by exact cw):RO ac c (⟨d,.arith .eql k x y,none,[],[]⟩::l) s L H:=RO.arith h e f (by grind[iK,fQ])
theorem RO.neq{k:Nat}{x y:aJ}{a b:Int}(h:RO ac c l s (bC L d (.bool (decide (a≠b)))) H)(e:bf L x=.int k a:=by exact cw)(f:bf L y=.int k b:=by exact cw):RO ac c (⟨d,.arith .neq k x y,none,[],[]⟩::l) s L H:=RO.arith h e f (by simp only[iK,fQ];grind)
theorem RO.lss{k:Nat}{x y:aJ}{a b:Int}(h:RO ac c l s (bC L d (.bool (decide (a<b)))) H)(e:bf L x=.int k a:=by exact cw)(f:bf L y=.int k b:=by exact cw):RO ac c (⟨d,.arith .lss k x y,none,[],[]⟩::l) s L H:=RO.arith h e f (by simp[iK,nG])
theorem RO.leq{k:Nat}{x y:aJ}{a b:Int}(h:RO ac c l s (bC L d (.bool (decide (a<=b)))) H)(e:bf L x=.int k a:=by exact cw)(f:bf L y=.int k b:=by exact cw):RO ac c (⟨d,.arith .leq k x y,none,[],[]⟩::l) s L H:=RO.arith h e f (by simp only[iK,nG];congr 2;grind)
theorem RO.gtr{k:Nat}{x y:aJ}{a b:Int}(h:RO ac c l s (bC L d (.bool (decide (b<a)))) H)(e:bf L x=.int k a:=by exact cw)(f:bf L y=.int k b:=by exact cw):RO ac c (⟨d,.arith .gtr k x y,none,[],[]⟩::l) s L H:=RO.arith h e f (by simp[iK,nG])
theorem RO.geq{k:Nat}{x y:aJ}{a b:Int}(h:RO ac c l s (bC L d (.bool (decide (b<=a)))) H)(e:bf L x=.int k a:=by exact cw)(f:bf L y=.int k b:=by exact cw):RO ac c (⟨d,.arith .geq k x y,none,[],[]⟩::l) s L H:=RO.arith h e f (by simp only[iK,nG];congr 2;grind)
theorem RO.Ae{k:Nat}{x y:aJ}{a b:Nat}(h:RO ac c l s (bC L d (.bool (decide (a<b)))) H)(e:bf L x=.int k (.ofNat a):=by exact cw)(f:bf L y=.int k (.ofNat b):=by exact cw):RO ac c (⟨d,.arith .lss k x y,none,[],[]⟩::l) s L H:=RO.lss (a:=.ofNat a) (b:=.ofNat b) (by simp_all) e f
theorem RO.Aj{k:Nat}{x y:aJ}{a b:Nat}(h:RO ac c l s (bC L d (.bool (decide (a<=b)))) H)(e:bf L x=.int k (.ofNat a):=by exact cw)(f:bf L y=.int k (.ofNat b):=by exact cw):RO ac c (⟨d,.arith .leq k x y,none,[],[]⟩::l) s L H:=RO.leq (a:=.ofNat a) (b:=.ofNat b) (by simp_all) e f
theorem RO.Ah{k:Nat}{x y:aJ}{a b:Nat}(h:RO ac c l s (bC L d (.bool (decide (b<a)))) H)(e:bf L x=.int k (.ofNat a):=by exact cw)(f:bf L y=.int k (.ofNat b):=by exact cw):RO ac c (⟨d,.arith .gtr k x y,none,[],[]⟩::l) s L H:=RO.gtr (a:=.ofNat a) (b:=.ofNat b) (by simp_all) e f
theorem RO.Ai{k:Nat}{x y:aJ}{a b:Nat}(h:RO ac c l s (bC L d (.bool (decide (b<=a)))) H)(e:bf L x=.int k (.ofNat a):=by exact cw)(f:bf L y=.int k (.ofNat b):=by exact cw):RO ac c (⟨d,.arith .geq k x y,none,[],[]⟩::l) s L H:=RO.geq (a:=.ofNat a) (b:=.ofNat b) (by simp_all) e f
theorem RO.Ag{k:Nat}{x y:aJ}{a b:Nat}(h:RO ac c l s (bC L d (.bool (decide (a=b)))) H)(e:bf L x=.int k (.ofNat a):=by exact cw)(f:bf L y=.int k (.ofNat b):=by exact cw):RO ac c (⟨d,.arith .eql k x y,none,[],[]⟩::l) s L H:=RO.eql (a:=.ofNat a) (b:=.ofNat b) (by rw[show decide (ak1 a=ak1 b)=decide (a=b)from decide_eq_decide.2 ⟨λh=>Int.ofNat.inj h,λh=>congrArg _ h⟩];exact h) e f
theorem RO.Af{k:Nat}{x y:aJ}{a b:Nat}(h:RO ac c l s (bC L d (.bool (decide (a≠b)))) H)(f:bf L x=.int k (.ofNat a):=by exact cw)(g:bf L y=.int k (.ofNat b):=by exact cw):RO ac c (⟨d,.arith .neq k x y,none,[],[]⟩::l) s L H:=RO.neq (a:=.ofNat a) (b:=.ofNat b) (by rw[show decide (ak1 a≠ak1 b)=decide (a≠b)from decide_eq_decide.2 ⟨λh e=>h (congrArg _ e),λh e=>h (Int.ofNat.inj e)⟩];exact h) f g
theorem RO.un{op:UnOp}{x:aJ}{w v:AV}(h:RO ac c l s (bC L d v) H)(b:bf L x=w:=by exact cw)(e:w.bB=true:=by first|rfl|assumption)(f:Df op w=some v:=by exact cw):RO ac c (⟨d,.unary op x,none,[],[]⟩::l) s L H:=RO.op (λaa a=>by simp only[aE,a.gv b e,f,akt]) h
theorem RO.eq{neg:Bool}{e:eE}{x y:aJ}{a b:AV}{t:Bool}(h:RO ac c l s (bC L d (.bool (t !=neg))) H)(g:bf L x=a:=by exact cw)(i:a.bB=true:=by first|rfl|assumption)(j:bf L y=b:=by exact cw)(hb:b.bB=true:=by first|rfl|assumption)(ht:eA 64 e a b=some t:=by first|assumption|rfl):RO ac c (⟨d,.eq neg e x y,none,[],[]⟩::l) s L H:=RO.op (λaa f=>by simp only[aE,f.gv g i,f.gv j hb,ht,akt]) h
theorem RO.aW{x:aJ}{i:ab}{o:Nat}{v:AV}(h:RO ac c l s (bC L d v) H)(hx:bf L x=.az i o:=by exact cw)(hc:bh H i o=some v:=by assumption):RO ac c (⟨d,.aW x,none,[],[]⟩::l) s L H:=RO.op (λaa a=>jC (a.gv hx rfl) hc) h
theorem RO.gw{n:Nat}{x:aJ}{i:ab}{o:Nat}{b:List AV}(h:RO ac c l s (bC L d (.agg b)) H)(hx:bf L x=.az i o:=by exact cw)(hc:fE H i o n=some b:=by assumption):RO ac c (⟨d,.gw n x,none,[],[]⟩::l) s L H:=RO.op (λaa a=>by simp only[aE,a.gv hx rfl,jp,hc,bq,akt]) h
theorem RO.store{n:Nat}{a x:aJ}{i:ab}{o:Nat}{v:AV}{e:ai}(f:iX H i o v.cells=some e)(h:RO ac c l s (bC L d .alR) e)(g:bf L a=.az i o:=by exact cw)(j:bf L x=v:=by exact cw)(k:v.bB=true:=by first|rfl|assumption)(m:v.cells.length=n:=by rfl):RO ac c (⟨d,.store n a x,none,[],[]⟩::l) s L H:=RO.op (λaa b=>by simp only[aE,b.gv g rfl,b.gv j k,m,bq,f]) h
theorem RO.dG{size:Nat}{x y:aJ}{i:ab}{o n b j k:Nat}{e:Bool}(h:RO ac c l s (bC L d (.az i (o+j*size))) H)(f:bf L x=.slice i o n b e:=by exact cw)(g:bf L y=.int k (.ofNat j):=by exact cw)(hj:j<n:=by omega):RO ac c (⟨d,.dG size x y,none,[],[]⟩::l) s L H:=RO.op (λaa a=>by have:akv j n=true:=alN akY hj;simp only[aE,a.gv f rfl,a.gv g rfl,this,bq]) h
theorem RO.j6{off:Nat}{x:aJ}{i:ab}{o:Nat}(h:RO ac c l s (bC L d (.az i (o+off))) H)(b:bf L x=.az i o:=by exact cw):RO ac c (⟨d,.j6 off x,none,[],[]⟩::l) s L H:=RO.op (λaa a=>by simp only[aE,a.gv b rfl]) h
theorem RO.part{agg:Bool}{off size:Nat}{x:aJ}{b:List AV}{v:AV}(h:RO ac c l s (bC L d v) H)(e:bf L x=.agg b:=by exact cw)(f:uo agg b off size=some v:=by exact cw):RO ac c (⟨d,.part agg off size x,none,[],[]⟩::l) s L H:=RO.op (λaa a=>by simp only[aE,a.gv e rfl,f,akt]) h
theorem RO.extract{x:aJ}{i:Nat}{b:List AV}{v:AV}(h:RO ac c l s (bC L d v) H)(e:bf L x=.tuple b:=by exact cw)(f:qF b i=some v:=by exact cw):RO ac c (⟨d,.extract x i,none,[],[]⟩::l) s L H:=RO.op (λaa a=>by simp only[aE,a.gv e rfl,f,akt]) h
def lenOf:AV->Option Nat
 |.slice _ _ n _ _=>some n
 |.aS=>some 0
 |_=>none
theorem RO.j7{x:aJ}{v:AV}{n:Nat}(h:RO ac c l s (bC L d (.int 3 (.ofNat n))) H)(b:bf L x=v:=by exact cw)(e:lenOf v=some n:=by first|rfl|assumption):RO ac c (⟨d,.j7 x,none,[],[]⟩::l) s L H:=RO.op (λaa a=>by
 have hd:v.bB=true:=by cases v<;>first|rfl|cases e
 simp only[aE,a.gv b hd];grind[lenOf,adG,reduceCtorEq]) h
theorem RO.box{e:Nat}{x:aJ}{v:AV}(h:RO ac c l s (bC L d (.az H.next 0)) (H.new (.cells (db v.cells) v.cells.length e true [] 0)))(b:bf L x=v:=by exact cw)(f:v.bB=true:=by first|rfl|assumption)(g:dS v.cells=true:=by rfl):RO ac c (⟨d,.box e x,none,[],[]⟩::l) s L H:=RO.op (λaa a=>by simp only[aE,a.gv b f,g,bq]) h
theorem RO.alloc{e:Nat}{a:List AV}(h:RO ac c l s (bC L d (.az H.next 0)) (H.new (.cells (db a) a.length e true [] 0))):RO ac c (⟨d,.alloc e a,none,[],[]⟩::l) s L H:=RO.op (λaa b=>by rfl) h
def qO(L:Kn)(l:List AV):List (Nat×Nat×aJ)->Option (List AV)
 |[]=>some l
 |(off,size,x)::a=>
  let b:=(bf L x).cells
  if(bf L x).bB&&decide (b.length=size)then(match uq l off b with|some c=>qO L c a|none=>none)else none
theorem HR{aa:ap AV}(a:Le L aa):∀{f:List (Nat×Nat×aJ)}{c d:List AV},qO L c f=some d->oI aa c f=some d
 |[],c,d,h=>by trivial
 |(off,size,x)::i,c,d,h=>by
  simp only[qO]at h;split at h
  .rename_i g;have b:=g;simp only[aj6]at b;have e:=a.gv (x:=x) rfl b.1;simp only[oI];rw[e,aK g];split at h;·rename_i h2;rw[h2];exact HR a h
   grind
  grind
theorem RO.build{a vs:List AV}{b:List (Nat×Nat×aJ)}(h:RO ac c l s (bC L d (.agg vs)) H)(hl:qO L a b=some vs:=by exact cw):RO ac c (⟨d,.build a b,none,[],[]⟩::l) s L H:=RO.op (λaa e=>by grind[aE,HR]) h
theorem RO.buildSlice{e n:Nat}{b vs:List AV}{f:List (Nat×Nat×aJ)}(h:RO ac c l s (bC L d (.slice H.next 0 n n true)) (H.new (.cells (db vs) vs.length e true [] 0)))(hl:qO L (fO b n) f=some vs:=by exact cw)(g:dS vs=true:=by rfl):RO ac c (⟨d,.buildSlice e n b f,none,[],[]⟩::l) s L H:=RO.op (λaa a=>by simp only[aE,HR a hl,g,bq]) h
theorem RO.iP{f:Nat}{a b:List aJ}{g bv:List AV}(h:RO ac c l s (bC L d (.func f g bv)) H)(j:a.map (bf L)=g:=by rfl)(i:g.all AV.bB=true:=by rfl)(hb:b.map (bf L)=bv:=by rfl)(k:bv.all AV.bB=true:=by rfl):RO ac c (⟨d,.iP f a b,none,[],[]⟩::l) s L H:=RO.op (λaa m=>by
 have e:∀{a:List aJ}{g:List AV},a.map (bf L)=g->g.all AV.bB=true->a.map (gv aa)=g:=λ{a g}j i=>by subst j;exact alk λx n=>m.gv rfl (aln.1 i _ (akp n))
 simp[e,j,i,hb,k,aE]) h
theorem RO.jK(h:RO ac c l s (bC L d (.map H.next)) (H.new (.map [] 0))):RO ac c (⟨d,.jK,none,[],[]⟩::l) s L H:=RO.op (λaa a=>by rfl) h
theorem RO.lT{t:Nat}{x:aJ}{v:AV}(h:RO ac c l s (bC L d (.iface t v)) H)(b:bf L x=v:=by exact cw)(e:v.bB=true:=by first|rfl|assumption):RO ac c (⟨d,.lT t x,none,[],[]⟩::l) s L H:=RO.op (λaa a=>by simp only[aE,a.gv b e]) h
theorem RO.jL{e bytes size:Nat}{b:List AV}{x y:aJ}{n k:Nat}(h:RO ac c l s (bC L d (.slice H.next 0 n k true)) (H.new (.cells (db (fO b k)) (k*size) e true [] 0)))(f:bf L x=.int 3 (.ofNat n):=by exact cw)(g:bf L y=.int 3 (.ofNat k):=by exact cw)(i:n<=k:=by omega)(hb:k*bytes<=70368744177664:=by omega)(j:k<=70368744177664:=by omega):RO ac c (⟨d,.jL e bytes size b x y,none,[],[]⟩::l) s L H:=RO.op (λaa a=>by
 have h1:(ak2 n k&&fw (k*bytes)&&fw k)=true:=by simp only[fw,aj6];exact⟨⟨akB i,akB hb⟩,akB j⟩
 simp only[aE,a.gv f rfl,a.gv g rfl,h1,bq]) h
theorem RO.append{e bytes size:Nat}{j:List AV}{x y:aJ}{b f:AV}{n:Nat}{i:List AV}{r:AV×ai}(k:je H size f=some (n,i))(m:kI e bytes size H b n i=some r)(h:RO ac c l s (bC L d r.1) r.2)(o:bf L x=b:=by exact cw)(hs:b.bB=true:=by first|rfl|assumption)(p:bf L y=f:=by exact cw)(g:f.bB=true:=by first|rfl|assumption):RO ac c (⟨d,.append e bytes size j false x y,none,[],[]⟩::l) s L H:=RO.op (λaa a=>by simp only[aE,aes,bP,a.gv o hs,a.gv p g,k,m]) h
theorem RO.nilCheck{x:aJ}{v:AV}(h:RO ac c l s (bC L d v) H)(e:bf L x=v:=by exact cw)(b:(match v with|.az .. |.func .. |.yield _|.iface .. |.map _|.slice .. =>true|_=>false)=true:=by first|rfl|assumption):RO ac c (⟨d,.nilCheck x,none,[],[]⟩::l) s L H:=RO.op (λaa a=>by
 have hd:v.bB=true:=by cases v<;>first|rfl|cases b
 simp only[aE,a.gv e hd];cases v<;>first|rfl|cases b) h
theorem RO.qD{a:Bool}{f:List aJ}{v r:AV}{b:List AV}(h:RO ac c l s (bC L d r) H)(j:f.map (bf L)=v::b:=by rfl)(hd:(v::b).all AV.bB=true:=by first|rfl|assumption)(hr:zf a v b=some r:=by exact cw):RO ac c (⟨d,.qD a f,none,[],[]⟩::l) s L H:=RO.op (λaa g=>by
 have e:f.map (gv aa)=v::b:=by rw[<-j];refine alk λx i=>g.gv rfl ?_;rw[<-j]at hd;exact aln.1 hd _ (akp i)
 simp[e,hr,aE,akt]) h
def l7(L:Kn)(x:Option aJ)(d y:Nat):Option Nat:=
 match x with
 |some x=>oJ (bf L x) y
 |none=>some d
theorem An{aa:ap AV}(a:Le L aa){x:Option aJ}{d y n:Nat}(h:l7 L x d y=some n):jz aa x d y=some n:=by cases x with|none=>exact h|some x=>simp only[l7]at h;simp only[jz];rw[a.gv (x:=x) rfl (by cases hg:bf L x<;>rw[hg]at h<;>first|rfl|cases h)];exact h
theorem RO.im{e size:Nat}{x:aJ}{lo hi g:Option aJ}{i:ab}{o n j:Nat}{ex:Bool}{a b m:Nat}(k:bf L x=.slice i o n j ex)(p:l7 L g j j=some m)(hb:l7 L hi n m=some b)(q:l7 L lo 0 b=some a)(he:(ex||g.isSome||lo.isNone||sM H i e)=true)(h:RO ac c l s (bC L d (.slice i (if ex&&decide (m=a)then o else o+a*size) (b - a) (m - a) (ex||g.isSome))) H):RO ac c (⟨d,.im e size x lo hi g,none,[],[]⟩::l) s L H:=RO.op (λaa f=>by simp only[aE,f.gv k rfl,An f p,An f hb,An f q,ae5,alr,he,bq]) h
theorem RO.Cb{e size:Nat}{x:aJ}{lo hi g:Option aJ}{a b m:Nat}(i:bf L x=.aS)(j:l7 L g 0 0=some m)(hb:l7 L hi 0 m=some b)(k:l7 L lo 0 b=some a)(h:RO ac c l s (bC L d .aS) H):RO ac c (⟨d,.im e size x lo hi g,none,[],[]⟩::l) s L H:=RO.op (λaa f=>by simp only[aE,f.gv i rfl,An f j,An f hb,An f k,ae5,alr]) h
theorem RO.kX{k m:Nat}{x:aJ}{a:Int}(h:RO ac c l s (bC L d (.int k (iJ k a))) H)(e:bf L x=.int m a:=by exact cw):RO ac c (⟨d,.kX k x,none,[],[]⟩::l) s L H:=RO.op (λaa b=>by simp only[aE,b.gv e rfl]) h
theorem RO.copy{size:Nat}{x y:aJ}{i:ab}{o n j:Nat}{ex:Bool}{b:AV}{m:Nat}{f:List AV}{g:ai}(k:bf L x=.slice i o n j ex)(p:bf L y=b)(e:b.bB=true)(q:je H size b=some (m,f))(r:min m n≠0)(t:iX H i o (f.take (min m n*size))=some g)(h:RO ac c l s (bC L d (.int 3 (.ofNat (min m n)))) g):RO ac c (⟨d,.copy size x y,none,[],[]⟩::l) s L H:=RO.op (λaa a=>by simp only[aE,a.gv k rfl,a.gv p e,q,aq r,t]) h
theorem RO.Nx{size:Nat}{x y:aJ}{xv b:AV}{m:Nat}{f:List AV}(g:bf L x=xv)(i:bf L y=b)(e:b.bB=true)(j:je H size b=some (m,f))(k:∃n,lenOf xv=some n/\min m n=0)(h:RO ac c l s (bC L d (.int 3 (.ofNat 0))) H):RO ac c (⟨d,.copy size x y,none,[],[]⟩::l) s L H:=RO.op (λaa a=>by
 obtain⟨n,h1,h2⟩:=k;have hd:xv.bB=true:=by cases xv<;>first|rfl|cases h1
 simp only[aE,a.gv g hd,a.gv i e,j];cases xv<;>simp only[lenOf,adG,reduceCtorEq]at h1;all_goals grind) h
theorem RO.typeAssert{t u:Nat}{zero:AV}{x:aJ}{v:AV}(b:bf L x=.iface u v)(hu:akb u t=true)(h:RO ac c l s (bC L d v) H):RO ac c (⟨d,.typeAssert t zero false x,none,[],[]⟩::l) s L H:=RO.op (λaa a=>by simp only[aE,a.gv b rfl,hu,bq,aes,bP]) h
theorem RO.iE{op:BinOp}{x y:aJ}{a b:AV}{v:AV}(h:RO ac c l s (bC L d v) H)(f:bf L x=a:=by exact cw)(g:a.bB=true:=by first|rfl|assumption)(i:bf L y=b:=by exact cw)(hb:b.bB=true:=by first|rfl|assumption)(j:Ba op a b=some v:=by exact cw):RO ac c (⟨d,.iE op x y,none,[],[]⟩::l) s L H:=RO.op (λaa e=>by simp only[aE,e.gv f g,e.gv i hb,j,akt]) h
theorem RO.kH{x:aJ}{t:List Nat}(h:RO ac c l s (bC L d (.int 3 (.ofNat t.length))) H)(b:bf L x=.str t:=by exact cw):RO ac c (⟨d,.kH x,none,[],[]⟩::l) s L H:=RO.op (λaa a=>by simp only[aE,a.gv b rfl]) h
theorem RO.yg{op:bW}{g:ab}{w b:Bool}{hd:List ab}{re:List jo}(h:RO ac c l s (bC L d .alR) H)(hg:bf L (.t g)=.bool b:=by exact cw)(hb:b≠w:=by decide):RO ac c (⟨d,op,some (g,w),hd,re⟩::l) s L H:=λaa a=>by obtain⟨n,f⟩:=h _ (a.set d .alR);refine⟨n+1,?_⟩;have e:aa.get .alR g=.bool b:=a.get hg rfl;simp[hb,e,f,Xo,Go.am.aC,fF,lX,aes,bP,AV.bB,bq]
theorem RO.tm{op:bW}{g:ab}{w:Bool}{hd:List ab}{re:List jo}(h:RO ac c (⟨d,op,none,hd,re⟩::l) s L H)(hg:bf L (.t g)=.bool w:=by exact cw):RO ac c (⟨d,op,some (g,w),hd,re⟩::l) s L H:=λaa a=>by obtain⟨n,b⟩:=h aa a;refine⟨n,?_⟩;have e:aa.get .alR g=.bool w:=a.get hg rfl;cases n with|zero=>trivial|succ n=>simp_all[Xo,Go.am.aC,fF,beq_self_eq_true,bq]
end
section
theorem yh{c:ap AV}{n:Nat}:∀{l:List AV}{o:Nat},o+l.length<=n->(∀i(h:i<l.length),c.bw .alR (o+i)=l[i])->iI c n o l.length=some l
 |[],o,_,_=>by rfl
 |z::l,o,h,hg=>by
  simp only[akA,iI];have h0:c.bw .alR o=z:=hg 0 aB;have a:o<n:=by simp at h;omega
  have b:=yh (c:=c) (n:=n) (l:=l) (o:=o+1) (by simp at h;omega) (λi hi=>by have:=hg (i+1) (by simpa using hi);rw[show o+(i+1)=o+1+i by omega]at this;simpa using this);grind
def Sl(H:ai)(size:Nat)(vs:List AV)(n:Nat)(sv:AV):Prop:=
 (sv=.aS/\n=0/\vs=[])\/∃i o cap ex c m e rw aM fz,sv=.slice i o n cap ex/\H.get i=.cells c m e rw aM fz/\o+n*size<=m/\vs.length=n*size/\(∀j(h:j<vs.length),c.bw .alR (o+j)=vs[j])/\i.an<H.next.an/\n<=cap
variable{H H':ai}{size n e bytes:Nat}{vs ws:List AV}{sv:AV}
theorem Sl.length(h:Sl H size vs n sv):vs.length=n*size:=by rcases h with⟨_,rfl,rfl⟩|⟨_,_,_,_,_,_,_,_,_,_,_,_,_,h,_⟩;all_goals grind
theorem Sl.bB(h:Sl H size vs n sv):sv.bB=true:=by rcases h with⟨rfl,_⟩|⟨_,_,_,_,_,_,_,_,_,_,rfl,_⟩<;>rfl
theorem Sl.ee(h:Sl H size vs n sv):sv.ee=true:=by rcases h with⟨rfl,_⟩|⟨_,_,_,_,_,_,_,_,_,_,rfl,_⟩<;>rfl
theorem Sl.cells(h:Sl H size vs n sv):sv.cells=[sv]:=by rcases h with⟨rfl,_⟩|⟨_,_,_,_,_,_,_,_,_,_,rfl,_⟩<;>rfl
theorem Sl.len(h:Sl H size vs n sv):lenOf sv=some n:=by rcases h with⟨rfl,rfl,_⟩|⟨_,_,_,_,_,_,_,_,_,_,rfl,_⟩<;>rfl
theorem Sl.je(h:Sl H size vs n sv):je H size sv=some (n,vs):=by rcases h with⟨rfl,rfl,rfl⟩|⟨i,o,cap,ex,c,m,e,a,aM,fz,rfl,hg,b,hl,d,_⟩;all_goals grind[yh,Go.am.je,fE]
theorem Sl.frame(h:Sl H size vs n sv)(g:H.next.an<=H'.next.an)(k:∀j:ab,j.an<H.next.an->H'.get j=H.get j):Sl H' size vs n sv:=by
 rcases h with h|⟨i,o,cap,ex,c,m,e,b,aM,fz,h1,hg,d,hl,f,hi,a⟩;·exact .inl h
 exact .inr ⟨i,o,cap,ex,c,m,e,b,aM,fz,h1,by grind,d,hl,f,af,a⟩
theorem Sl.at(h:Sl H size vs n sv)(g:0<n):∃i o cap ex,sv=.slice i o n cap ex/\n<=cap/\i.an<H.next.an/\(∀j(hj:j<vs.length),bh H i (o+j)=some vs[j])/\∀j k,(j+k)<=vs.length->fE H i (o+j) k=some ((vs.drop j).take k):=by
 rcases h with⟨_,rfl,_⟩|⟨i,o,cap,ex,c,m,e,d,aM,fz,h1,hg,l,hl,b,hi,a⟩;·omega
 refine⟨i,o,cap,ex,h1,a,hi,λj hj=>?_,λj k f=>?_⟩;·have hb:akv (o+j) m=true:=alN akY af;simp[hg,hb,b,hj,bh,bq]
 grind[yh,akF,alC,alo,aly,fE]
def dU(H:ai)(fp:List ab)(e size:Nat)(vs:List AV)(n:Nat)(full:Bool)(sv:AV):Prop:=
 (fp=[]/\vs=[]/\n=0/\sv=.aS)\/
 ∃i c aM cap ex,fp=i::aM/\sv=.slice i 0 n cap ex/\H.get i=.cells c (cap*size) e true aM 0/\n<=cap/\vs.length=n*size/\(∀j(h:j<vs.length),c.bw .alR j=vs[j])/\(∀p∈fp,p.an<H.next.an)/\(full=true->ex=true\/n=cap)
variable{fp:List ab}{full:Bool}
theorem dU.sl(h:dU H fp e size vs n full sv):Sl H size vs n sv:=by
 rcases h with⟨_,rfl,rfl,rfl⟩|⟨i,c,aM,cap,ex,rfl,rfl,hg,a,hl,d,b,_⟩;·exact .inl ⟨rfl,rfl,rfl⟩
 refine .inr ⟨i,0,cap,ex,c,_,e,true,aM,0,rfl,hg,?_,hl,λj hj=>by grind,b i (aeU ..),a⟩;simp[a,akh,aky]
theorem dU.frame(h:dU H fp e size vs n full sv)(f:H.next.an<=H'.next.an)(l:∀j∈fp,H'.get j=H.get j):dU H' fp e size vs n full sv:=by
 rcases h with h|⟨i,c,aM,cap,ex,rfl,rfl,hg,b,hl,g,k,a⟩;·exact .inl h
 exact .inr ⟨i,c,aM,cap,ex,rfl,rfl,by grind,b,hl,g,λp d=>ako (k p d) f,a⟩
structure bm(H H':ai):Prop where
 nx:H.next.an<=H'.next.an
 dT:∀j:ab,j.an<H.next.an->H'.get j=H.get j
theorem bm.refl(H:ai):bm H H:=⟨afb _,λ_ _=>rfl⟩
theorem bm.trans{A B C:ai}(h:bm A B)(k:bm B C):bm A C:=⟨alj h.nx k.nx,λj hj=>(k.dT j (ako hj h.nx)).trans (h.dT j hj)⟩
theorem ai.nK(H:ai)(o:cq):(H.new o).next.an=H.next.an+1:=ab.gK _
theorem bm.new(H:ai)(o:cq):bm H (H.new o):=⟨by rw[ai.nK];omega,λj hj=>by rw[ai.dJ,aq (cG af)]⟩
theorem bm.sl(h:bm H H')(k:Sl H size vs n sv):Sl H' size vs n sv:=k.frame h.nx h.dT
theorem bm.bh(h:bm H H'){i:ab}(hi:i.an<H.next.an)(o:Nat):bh H' i o=Go.am.bh H i o:=pW (h.dT i hi) o
theorem dU.below(h:dU H fp e size vs n full sv):∀j∈fp,j.an<H.next.an:=by rcases h with⟨rfl,_⟩|⟨_,_,_,_,_,_,_,_,_,_,_,a,_⟩;all_goals grind
theorem HS:∀{l:List AV},dS l=true↔∀v∈l,v.ee=true|[]=>by trivial|a::l=>by simp[dS,HS (l:=l)]
theorem ww{n:Nat}(h:n<=70368744177664):fw n=true:=akB h
theorem Ao{l:List AV}{j:Nat}(h:j<l.length):(db l).bw .alR j=l[j]:=by simp[h,pR,akm]
theorem dU.new{vs:List AV}(b:vs.length=n*size)(ex full:Bool):dU (H.new (.cells (db vs) (n*size) e true [] 0)) [H.next] e size vs n full (.slice H.next 0 n n ex):=.inr ⟨H.next,db vs,[],n,ex,rfl,rfl,by rw[ai.dJ,aK rfl],afb _,b,λj hj=>Ao hj,λp a=>by rw[aep]at a;subst a;rw[ai.nK];omega,λ_=>.inr rfl⟩
theorem dU.append(h:dU H fp e size vs n true sv){k:Nat}(r:ws.length=k*size)(h1:dS ws=true)(hb:(n+k)*bytes<=70368744177664)(hs:n+k<=70368744177664):∃t H' fp',kI e bytes size H sv k ws=some (t,H')/\dU H' fp' e size (vs++ws) (n+k) true t/\H.next.an<=H'.next.an/\(∀j∈fp',j∈fp\/(H.next.an<=j.an/\j.an<H'.next.an))/\∀j:ab,j∉fp->j.an<H.next.an->H'.get j=H.get j:=by
 rcases h with⟨rfl,rfl,rfl,rfl⟩|⟨i,c,aM,cap,ex,rfl,rfl,hg,g,hl,w,v,a⟩
 .by_cases s:k=0;·subst s;have l:ws=[]:=akM af;subst l;refine⟨.aS,H,[],by simp[kI,dS],.inl ⟨rfl,rfl,rfl,rfl⟩,afb _,λj hj=>(by cases hj),λ_ _ _=>rfl⟩
  have m:akb k 0=false:=by cases h:akb k 0 with|false=>rfl|true=>exact absurd (aj4 h) s
  refine⟨.slice H.next 0 k k false,H.new (.cells (db ws) (k*size) e true [] 0),[H.next],?_,?_,?_,?_,?_⟩;·rw[akh]at hb hs;simp only[kI,h1,aku,aes,bP,m,ww hb,ww hs,alK,bq]
  .rw[akh];exact dU.new r false true
  .exact(bm.new H _).nx
  .intro j hj;rw[aep]at hj;subst hj;right;rw[ai.nK];omega
  intro j _ hj;exact(bm.new H _).dT j hj
 by_cases b:n+k<=cap
 .have d:ak2 (n+k) cap=true:=akB b;by_cases s:k=0
  .subst s;have l:ws=[]:=akM af;subst l;refine⟨.slice i 0 (n+0) cap ex,H,i::aM,?_,?_,afb _,λj hj=>.inl hj,λ_ _ _=>rfl⟩;·simp only[kI,h1,aku,aes,bP,d,bq,ald]
   exact .inr ⟨i,c,aM,cap,ex,rfl,rfl,hg,g,by simpa using hl,by simpa using w,v,a⟩
  have m:akb k 0=false:=by cases h:akb k 0 with|false=>rfl|true=>exact absurd (aj4 h) s
  have z:n*size+ws.length<=cap*size:=by rw[r,<-alB];exact aky _ b
  have x:iX H i (0+n*size) ws=some ((H.gh aM).set i (.cells (fX c (0+n*size) ws) (cap*size) e true [] 0)):=by
   have hd:(decide (0<=0+n*size)&&decide (0+n*size+ws.length<=cap*size)&&dS ws)=true:=by simp only[aj6,decide_eq_true_eq,h1,and_true];omega
   simp only[iX,hg,hd,bq]
  refine⟨.slice i 0 (n+k) cap ex,(H.gh aM).set i (.cells (fX c (0+n*size) ws) (cap*size) e true [] 0),[i],by simp only[kI,h1,aku,aes,bP,d,bq,m,x],?_,?_,?_,?_⟩
  .refine .inr ⟨i,fX c (0+n*size) ws,[],cap,ex,rfl,rfl,by rw[ai.aF,aK rfl],b,by rw[aj8,hl,r,alB],λj hj=>?_,λp f=>?_,λA=>?_⟩
   .rw[nD];rw[aj8]at hj;by_cases o:j<vs.length;·rw[aq af,w j o,List.getElem_append_left o]
    rw[aK af,List.getElem_append_right af];have:j - (0+n*size)<ws.length:=af;simp only[akm,this,getElem?_pos,akQ];congr 1;omega
   .rw[aep]at f;subst f;rw[ai.gD,ai.kf];exact v _ (aeU ..)
   rcases a A with h|h;·exact .inl h
   right;omega
  .rw[ai.gD,ai.kf];exact afb _
  .intro j hj;rw[aep]at hj;subst hj;exact .inl (aeU ..)
  intro j hj _;rw[ai.aF,aq λe:j=i=>hj (by rw[e];exact aeU ..),ai.xy,aq λe=>hj (aey _ e)]
 have d:ak2 (n+k) cap=false:=by cases h:ak2 (n+k) cap with|false=>rfl|true=>exact absurd (akc h) b
 have hrd:iI c (cap*size) 0 (n*size)=some vs:=by have:=yh (c:=c) (n:=cap*size) (l:=vs) (o:=0) (by rw[akh,hl];exact aky _ g) (λj hj=>by rw[akh];exact w j hj);rw[hl]at this;exact this
 have u:(!(fw ((n+k)*bytes)&&fw (n+k)))=false:=by rw[ww hb,ww hs];rfl
 cases ex with
 |true=>
  refine⟨.slice H.next 0 (n+k) (n+k) false,H.new (.cells (db (vs++ws)) ((n+k)*size) e true [] 0),[H.next],by simp only[kI,h1,aku,aes,bP,d,u,hg,hrd,bq],?_,(bm.new H _).nx,?_,λj _ hj=>(bm.new H _).dT j hj⟩;·exact dU.new (by rw[aj8,hl,r,alB]) false true
  intro j hj;rw[aep]at hj;subst hj;right;rw[ai.nK];omega
 |false=>
  have y:n=cap:=by rcases a rfl with h|h;cases h;exact h
  subst y;have q:(true&&akb n n&&akb (0+n*size) (n*size)&&akb e e&&ak2 0 (n*size))=true:=by simp[ald]
  have B:i.an<H.next.an:=v i (aeU ..);refine⟨.slice H.next 0 (n+k) (n+k) false,(H.set i (.cells c (n*size) e false aM 0)).new (.cells (db (vs++ws)) ((n+k)*size) e true (i::aM) 0),H.next::i::aM,by simp only[kI,h1,aku,aes,bP,d,u,hg,hrd,q,bq],?_,?_,?_,?_⟩
  .refine .inr ⟨H.next,db (vs++ws),i::aM,n+k,false,rfl,rfl,by rw[ai.dJ,ai.gD,aK rfl],afb _,by rw[aj8,hl,r,alB],λj hj=>Ao hj,λp f=>?_,λ_=>.inr rfl⟩;rw[ai.nK,ai.gD];rcases aeV.1 f with e|e;·subst e;omega
   have:=v p e;omega
  .rw[ai.nK,ai.gD];omega
  .intro j hj;rcases aeV.1 hj with e|e;·subst e;right;rw[ai.nK,ai.gD];omega
   exact .inl e
  intro j hj o;rw[ai.dJ,ai.gD,aq (cG af),ai.aF,aq λe:j=i=>hj (by rw[e];exact aeU ..)]
theorem RO.V0{ac:Nat->aG}{c:Cx}{s:List SI}{L:Kn}{d:Option ab}{l:List be}{g:List AV}{x y:aJ}{b:AV}{k:Nat}(f:dU H fp e size vs n true sv)(hs:Sl H size ws k b)(h1:dS ws=true)(h:∀a H' fp',dU H' fp' e size (vs++ws) (n+k) true a->H.next.an<=H'.next.an->(∀j∈fp',j∈fp\/(H.next.an<=j.an/\j.an<H'.next.an))->(∀j:ab,j∉fp->j.an<H.next.an->H'.get j=H.get j)->RO ac c l s (bC L d a) H')(i:bf L x=sv:=by exact cw)(m:bf L y=b:=by exact cw)(hb:(n+k)*bytes<=70368744177664:=by omega)(o:n+k<=70368744177664:=by omega):RO ac c (⟨d,.append e bytes size g false x y,none,[],[]⟩::l) s L H:=by obtain⟨a,H',fp',h2,h3,p,q,r⟩:=f.append (bytes:=bytes) hs.length h1 hb o;exact RO.append hs.je h2 (h a H' fp' h3 p q r) i f.sl.bB m hs.bB
end
section
variable{ac:Nat->aG}{c:Cx}{s:List SI}{L:Kn}{H:ai}{d:Option ab}{l:List be}
abbrev aI(z:Int):AV:=.int 3 z
abbrev aN(n:Nat):AV:=.int 3 (.ofNat n)
theorem qP(l:List Int):dS (l.map aI)=true:=HS.2 λv a=>by obtain⟨z,_,rfl⟩:=akk.1 a;rfl
abbrev fZ(H:ai)(l:List Int)(a:AV):Prop:=Sl H 1 (l.map aI) l.length a
theorem RO.V1{a:List Int}{b:AV}{x y:aJ}{j k:Nat}(hs:fZ H a b)(h:∀i o z,a[j]?=some z->bh H i o=some (aI z)->i.an<H.next.an->RO ac c l s (bC L d (.az i o)) H)(f:bf L x=b:=by exact cw)(g:bf L y=.int k (.ofNat j):=by exact cw)(hj:j<a.length:=by omega):RO ac c (⟨d,.dG 1 x y,none,[],[]⟩::l) s L H:=by obtain⟨i,o,m,e,rfl,h1,h2,h3,n⟩:=hs.at af;refine RO.dG (h i (o+j*1) a[j] (getElem?_pos a j hj) ?_ h2) f g hj;grind
theorem RO.Ei{op:bW}{hd:List ab}{re:List jo}{v:AV}{g:ai}(i:∀f a,op≠.call f a)(e:∀a,op≠.lU a)(he:∀aa,Le L aa->∃H1,aE op aa (eV aa H hd).1=some (v,H1)/\eB H1 (eV aa H hd).2=g)(j:∀aa,Le (bC L d v) aa->fG aa g re=true)(h:RO ac c l s (bC L d v) g):RO ac c (⟨d,op,none,hd,re⟩::l) s L H:=λaa b=>by obtain⟨n,k⟩:=h _ (b.set d v);obtain⟨H1,h1,h2⟩:=he aa b;have h3:=j _ (b.set d v);refine⟨n+1,?_⟩;cases op<;>first|exact absurd rfl (i _ _)|exact absurd rfl (e _)|(simp only[Xo,Go.am.aC,fF,bq,h1,h2,h3];exact k)
theorem RO.HT{d:Option ab}{f:aJ}{args:List aJ}{l:List be}{re:List jo}{fv:AV}{e:List AV}(h:YF ac fv e H λv b=>(∀aa,Le (bC L d v) aa->fG aa b re=true)/\RO ac c l s (bC L d v) b)(p:bf L f=fv:=by exact cw)(i:fv.bB=true:=by first|rfl|assumption)(q:args.map (bf L)=e:=by rfl)(j:e.all AV.bB=true:=by first|rfl|assumption):RO ac c (⟨d,.call f args,none,[],re⟩::l) s L H:=λaa a=>by
 obtain⟨n,r⟩:=h;have k:args.map (gv aa)=e:=by subst q;refine alk λx t=>?_;exact a.gv rfl (aln.1 j _ (akp t))
 obtain⟨m,g⟩:=(Ad ac n).call (K:=λm v b=>fG (aQ aa d v) b re=true/\Xo ac m l ⟨aQ aa d v,c.M,c.R⟩ b (kh ac c.K s .none)) (λm u v H g h=>⟨h.1,h.2.mono g λ_ _ h=>h⟩) ((mono ac n).call (afb _) (λv b o=>by obtain⟨m,g⟩:=o.2 _ (a.set d v);exact⟨m,o.1 _ (a.set d v),g⟩) r);refine⟨max n m+1,?_⟩;simp only[Xo,Go.am.aC,fF,eV,eB,bq];rw[a.gv p i,k];refine(show Xf ac n fv e H _ from g).mono (Nat.le_max_left ..) λv b h=>?_;rw[aK h.1];exact(show Xo ac m l _ b _ from h.2).mono (Nat.le_max_right ..) λ_ _ h=>h
end
section
variable{A B C H H':ai}{size n e bytes cap:Nat}{vs ws:List AV}{sv:AV}{fp fp' f a b c:List ab}{full ex:Bool}{i:ab}
structure oS(fp fp':List ab)(H H':ai):Prop where
 nx:H.next.an<=H'.next.an
 hd:∀j∈fp',j∈fp\/H.next.an<=j.an
 dT:∀j:ab,j∉fp->j.an<H.next.an->H'.get j=H.get j
def tp(A:ai)(fp:List ab):Prop:=∀j∈fp,A.next.an<=j.an
theorem oS.cI(h:oS fp fp' H H')(hg:bm A H)(a:tp A fp):bm A H':=⟨alj hg.nx h.nx,λj hj=>by rw[h.dT j (λe=>by have:=a j e;omega) (ako hj hg.nx)];exact hg.dT j hj⟩
theorem oS.HV(h:oS fp fp' H H')(hg:bm A H)(a:tp A fp):tp A fp':=λj hj=>by
 rcases h.hd j hj with e|e;·exact a j e
 have:=hg.nx;omega
theorem oS.refl(fp:List ab)(H:ai):oS fp fp H H:=⟨afb _,λ_ hj=>.inl hj,λ_ _ _=>rfl⟩
theorem dU.wx(h:dU H fp e size vs n full (.slice i 0 n cap ex)){o:Nat}{us:List AV}(v:o+ws.length<=cap*size)(h1:dS ws=true)(hl:us.length=vs.length)(hu:∀j,j<vs.length->us[j]?=if o<=j/\j<o+ws.length then ws[j - o]? else vs[j]?):∃H',iX H i o ws=some H'/\oS fp [i] H H'/\dU H' [i] e size us n full (.slice i 0 n cap ex):=by
 rcases h with⟨_,_,_,h⟩|⟨w,c,aM,q,u,rfl,h2,hg,l,m,r,s,d⟩;·cases h
 injection h2 with h2 _ _ h3 t;subst h2;subst h3;subst t;have hd:(decide (0<=o)&&decide (o+ws.length<=cap*size)&&dS ws)=true:=by simp only[aj6,decide_eq_true_eq,h1,and_true];omega
 refine⟨(H.gh aM).set i (.cells (fX c o ws) (cap*size) e true [] 0),by simp only[iX,hg,hd,bq],⟨Nat.le_of_eq (by rw[ai.gD,ai.kf]),λj hj=>?_,λj hj x=>?_⟩,?_⟩;·rw[aep]at hj;subst hj;exact .inl (aeU ..)
 .rw[ai.aF,aq λe:j=i=>hj (by rw[e];exact aeU ..),ai.xy,aq λe=>hj (aey _ e)]
 refine .inr ⟨i,fX c o ws,[],cap,ex,rfl,rfl,by rw[ai.aF,aK rfl],l,hl.trans m,λj hj=>?_,λp k=>?_,d⟩
 .have a:j<vs.length:=af;have:=hu j a;rw[getElem?_pos us j hj]at this;rw[nD];split;·rename_i b;rw[aK b,getElem?_pos ws _ af]at this;injection this with this;simp only[akm];rw[getElem?_pos ws _ af];simp[this]
  rename_i b;rw[aq b,getElem?_pos vs _ a]at this;injection this with this;rw[r j a,this]
 rw[aep]at k;subst k;rw[ai.gD,ai.kf];exact s _ (aeU ..)
theorem dU.mem(h:dU H fp e size vs n full (.slice i 0 n cap ex)):i∈fp/\n<=cap/\i.an<H.next.an:=by rcases h with⟨_,_,_,h⟩|⟨l,c,aM,b,j,rfl,h2,hg,d,k,m,o,a⟩;all_goals grind
theorem dU.uT(h:dU H fp e size vs n full sv)(l:n≠0):∃i cap ex,sv=.slice i 0 n cap ex:=by rcases h with⟨_,_,h,_⟩|⟨m,c,aM,b,j,rfl,h2,hg,d,k,o,p,a⟩;all_goals grind
variable{l:List (Int×Int)}
variable{ac:Nat->aG}{g:Cx}{s:List SI}{L:Kn}{d:Option ab}{aC:List be}
end
section
variable{ac:Nat->aG}{c:Cx}{s:List SI}{L:Kn}{H H' A:ai}{d:Option ab}{l:List be}{size n e:Nat}{vs ws:List AV}{sv:AV}{fp fp':List ab}
theorem RO.de{q:ab}{p:Prop} [Decidable p](h1:p->RO ac c l s ((q,.bool true)::L) H)(h2:¬p->RO ac c l s ((q,.bool false)::L) H):RO ac c l s ((q,.bool (decide p))::L) H:=by by_cases a:p;all_goals grind
theorem RO.tq{q:ab}{t:Bool}(h1:t=true->RO ac c l s ((q,.bool true)::L) H)(h2:t=false->RO ac c l s ((q,.bool false)::L) H):RO ac c l s ((q,.bool t)::L) H:=by cases t with|true=>grind|false=>grind
theorem tu{k b y:Nat}(h:b<=y):oJ (.int k (.ofNat b)) y=some b:=by simp[h,oJ,akB,bq]
theorem RO.V2{x y:aJ}{b k:Nat}(hs:Sl H size vs n sv)(h:∀a,Sl H size (vs.take (b*size)) b a->RO ac c l s (bC L d a) H)(g:bf L x=sv:=by exact cw)(p:bf L y=.int k (.ofNat b):=by exact cw)(hb:b<=n:=by omega):RO ac c (⟨d,.im e size x none (some y) none,none,[],[]⟩::l) s L H:=by
 rcases hs with⟨rfl,rfl,rfl⟩|⟨i,o,cap,ex,r,m,t,f,aM,fz,rfl,hg,v,hl,u,hi,q⟩;·have:b=0:=af;subst this;refine RO.Cb (m:=0) (b:=0) (a:=0) g rfl ?_ rfl (h _ (.inl ⟨rfl,rfl,aB⟩));simp only[l7,p];rfl
 refine RO.im (m:=cap) (b:=b) (a:=0) g rfl ?_ rfl aB ?_;·simp only[l7,p];exact tu af
 have e1:(if ex&&decide (cap=0)then o else o+0*size)=o:=by split<;>omega
 rw[e1,alJ,alJ];have cA:b*size<=n*size:=aky _ hb;refine h _ (.inr ⟨i,o,cap,_,r,m,t,f,aM,fz,rfl,hg,af,?_,λj hj=>?_,hi,af⟩);·rw[akF];omega
 rw[akF]at hj;rw[u j af];simp
variable{q:ab}{v w:AV}
theorem RO.V3{f:List AV}(h:∀H' a fp',dU H' fp' e size [] 0 true a->bm H H'->tp H fp'->RO ac c l s (bC L d a) H'):RO ac c (⟨d,.buildSlice e 0 f [],none,[],[]⟩::l) s L H:=by refine RO.buildSlice (vs:=[]) ?_ rfl rfl;have b:dU (H.new (.cells (db []) (0*size) e true [] 0)) [H.next] e size [] 0 true (.slice H.next 0 0 0 true):=dU.new (vs:=[]) aB true true;rw[Nat.zero_mul]at b;exact h _ _ _ b (bm.new H _) (λj hj=>by grind)
theorem RO.V4{x y:aJ}{b:AV}{k bytes:Nat}{f:List AV}(g:dU H fp e size vs n true sv)(hs:Sl H size ws k b)(h1:dS ws=true)(h:∀a H' fp',dU H' fp' e size (vs++ws) (n+k) true a->oS fp fp' H H'->RO ac c l s (bC L d a) H')(i:bf L x=sv:=by exact cw)(m:bf L y=b:=by exact cw)(hb:(n+k)*bytes<=70368744177664:=by omega)(o:n+k<=70368744177664:=by omega):RO ac c (⟨d,.append e bytes size f false x y,none,[],[]⟩::l) s L H:=RO.V0 g hs h1 (λa H' fp' h2 h3 p q=>h a H' fp' h2 ⟨h3,λj hj=>(p j hj).imp id λh=>h.1,q⟩) i m hb o
theorem RO.HW{e size:Nat}{x:aJ}{lo hi f:Option aJ}{i:ab}{o n g:Nat}{ex:Bool}{a b m:Nat}{v:AV}(j:bf L x=.slice i o n g ex)(k:l7 L f g g=some m)(hb:l7 L hi n m=some b)(p:l7 L lo 0 b=some a)(he:(ex||f.isSome||lo.isNone||sM H i e)=true)(q:AV.slice i (if ex&&decide (m=a)then o else o+a*size) (b - a) (m - a) (ex||f.isSome)=v)(h:RO ac c l s (bC L d v) H):RO ac c (⟨d,.im e size x lo hi f,none,[],[]⟩::l) s L H:=by grind[RO.im]
end
section
variable{ac:Nat->aG}{c:Cx}{s:List SI}{L:Kn}{H H' A:ai}{d:Option ab}{l:List be}{size n e k cap bytes:Nat}{vs ws:List AV}{sv:AV}{fp fp':List ab}{full ex:Bool}{i:ab}
end
section
variable{ac:Nat->aG}{c:Cx}{s:List SI}{L:Kn}{H:ai}{d:Option ab}{l:List be}
theorem RO.Al{x a b:aJ}{v:AV}(h:RO ac c l s (bC L d v) H)(f:bf L x=.bool true:=by exact cw)(g:bf L a=v:=by exact cw)(i:v.bB=true:=by first|rfl|assumption):RO ac c (⟨d,.pick x a b,none,[],[]⟩::l) s L H:=RO.op (λaa e=>by simp only[aE,e.gv f rfl,e.gv g i,bq]) h
theorem RO.Am{x a b:aJ}{v:AV}(h:RO ac c l s (bC L d v) H)(f:bf L x=.bool false:=by exact cw)(hb:bf L b=v:=by exact cw)(g:v.bB=true:=by first|rfl|assumption):RO ac c (⟨d,.pick x a b,none,[],[]⟩::l) s L H:=RO.op (λaa e=>by simp only[aE,e.gv f rfl,e.gv hb g,aes,bP]) h
theorem RO.B'{op:bW}{g:ab}{w:Bool}{hd:List ab}{re:List jo}(h:RO ac c l s (bC L d .alR) H)(hg:bf L (.t g)=.tuple []:=by exact cw):RO ac c (⟨d,op,some (g,w),hd,re⟩::l) s L H:=λaa a=>by obtain⟨n,b⟩:=h _ (a.set d .alR);refine⟨n+1,?_⟩;have e:aa.get .alR g=.tuple []:=a.get hg rfl;simp[e,b,Xo,Go.am.aC,fF,lX,aes,bP,AV.bB,bq]
theorem ad{v:AV}{l:List AV}(h:v.bB=true)(h2:l.all AV.bB=true):(v::l).all AV.bB=true:=by grind
theorem RO.cl{f:aJ}{args:List aJ}{fv:AV}{a:List AV}(h:YF ac fv a H λv g=>RO ac c l s (bC L d v) g)(i:bf L f=fv:=by exact cw)(b:fv.bB=true:=by first|rfl|assumption)(ha:args.map (bf L)=a:=by rfl)(e:a.all AV.bB=true:=by repeat first|rfl|assumption|(refine ad ?_ ?_)):RO ac c (⟨d,.call f args,none,[],[]⟩::l) s L H:=RO.call h i b ha e
theorem px{k:Nat}(h:1<=k)(a:k<1000000):iK .sub 3 (.ofNat k) (.ofNat 1)=some (.int 3 (.ofNat (k - 1))):=by grind[iK,pY]
theorem bF{a:Type}{l:List a}{k:Nat}(h:k<l.length)(d:a):l.getD k d=l[k]:=by grind
theorem YF.oJ{f:Nat}{fs as_ cs:List AV}{K:KT}(h:YF ac (.func f fs cs) as_ H K):YF ac (.func f [] cs) (fs++as_) H K:=by obtain⟨n,h⟩:=h;refine⟨n,?_⟩;cases n with|zero=>trivial|succ n=>trivial
end
section
structure Th where
 P:ai->List ab->Prop
 fr:∀{H H':ai}{fp:List ab},P H fp->H.next.an<=H'.next.an->(∀j∈fp,H'.get j=H.get j)->P H' fp
 lt:∀{H:ai}{fp:List ab},P H fp->∀j∈fp,j.an<H.next.an
def Fs(A H:ai):List (List ab)->List Th->Prop
 |[],[]=>True
 |fp::fs,t::ts=>t.P H fp/\tp A fp/\(∀j∈fp,∀f∈fs,j∉f)/\Fs A H fs ts
 |_,_=>False
def aj(A H:ai)(ts:List Th):Prop:=bm A H/\∃fs,Fs A H fs ts
variable{A B H H' c:ai}{fs:List (List ab)}{ts us:List Th}{t t':Th}{fp fp':List ab}
theorem Fs.lt:∀{fs:List (List ab)}{ts:List Th},Fs A H fs ts->∀f∈fs,∀j∈f,j.an<H.next.an
 |[],[],_,f,a=>by grind
 |fp::fs,t::ts,⟨h1,_,_,b⟩,f,a=>by
  rcases aeV.1 a with rfl|a;·exact t.lt h1
  exact Fs.lt b f a
 |[],_::_,h,_,_=>h.elim
 |_::_,[],h,_,_=>h.elim
theorem Fs.ge:∀{fs:List (List ab)}{ts:List Th},Fs A H fs ts->∀f∈fs,tp A f
 |[],[],_,f,a=>by grind
 |fp::fs,t::ts,⟨_,h2,_,b⟩,f,a=>by
  rcases aeV.1 a with rfl|a;·omega
  exact Fs.ge b f a
 |[],_::_,h,_,_=>h.elim
 |_::_,[],h,_,_=>h.elim
theorem Fs.tg(a:H.next.an<=H'.next.an):∀{fs:List (List ab)}{ts:List Th},Fs A H fs ts->(∀f∈fs,∀j∈f,H'.get j=H.get j)->Fs A H' fs ts|[],[],_,_=>trivial|_::_,t::_,⟨h1,h2,h3,b⟩,hg=>⟨t.fr h1 a (hg _ (aeU ..)),h2,h3,Fs.tg a b λf d=>hg f (aey _ d)⟩|[],_::_,h,_=>h.elim|_::_,[],h,_=>h.elim
theorem Fs.ki(hg:bm A H)(hu:oS fp fp' H H'):∀{fs:List (List ab)}{ts:List Th}{i:Nat},Fs A H fs ts->ts[i]?=some t->fs[i]?=some fp->t'.P H' fp'->∃b,Fs A H' b (ts.set i t')/\∀f∈b,f=fp'\/f∈fs
 |[],[],i,_,h,_,_=>by grind
 |[],_::_,_,h,_,_,_=>h.elim
 |_::_,[],_,h,_,_,_=>h.elim
 |l::fs,t0::ts,0,⟨h1,h2,h3,d⟩,k,a,m=>by
  simp only[List.getElem?_cons_zero,adG]at k a;subst a;refine⟨fp'::fs,⟨m,hu.HV hg h2,λj hj f a e=>?_,Fs.tg hu.nx d λf a j hj=>hu.dT j (λe=>h3 j e f a hj) (Fs.lt d f a j hj)⟩,λf a=>(aeV.1 a).imp id λh=>aey _ h⟩;rcases hu.hd j hj with h|h;·grind
  have:=Fs.lt d f a j e;omega
 |l::fs,t0::ts,i+1,⟨h1,h2,h3,d⟩,k,a,m=>by
  simp only[ak6]at k a;have o:=List.mem_of_getElem? a;have n:=t0.lt h1;have g:∀j∈l,j∉fp:=λj hj=>h3 j hj fp o;obtain⟨b,p,q⟩:=Fs.ki hg hu d k a m;refine⟨l::b,⟨t0.fr h1 hu.nx λj hj=>hu.dT j (g j hj) (n j hj),h2,λj hj f a e=>?_,p⟩,λf a=>?_⟩
  .rcases q f a with rfl|h;·rcases hu.hd j e with h|h;all_goals grind
   grind
  grind
theorem Fs.at:∀{fs:List (List ab)}{ts:List Th}{i:Nat},Fs A H fs ts->ts[i]?=some t->∃fp,fs[i]?=some fp/\t.P H fp|[],[],i,_,h=>by grind|[],_::_,_,h,_=>h.elim|_::_,[],_,h,_=>h.elim|b::fs,t0::ts,0,⟨h1,_,_,_⟩,a=>by grind|b::fs,t0::ts,i+1,⟨_,_,_,d⟩,a=>by obtain⟨fp,e,h⟩:=Fs.at d a;grind
theorem aj.ki(U:aj A H ts)(i:Nat)(hi:ts[i]?=some t):∃fp,t.P H fp/\tp A fp/\∀{H':ai}{fp':List ab}{t':Th},oS fp fp' H H'->t'.P H' fp'->aj A H' (ts.set i t'):=by obtain⟨hg,fs,a⟩:=U;obtain⟨fp,e,h⟩:=a.at hi;refine⟨fp,h,a.ge fp (List.mem_of_getElem? e),λhu b=>⟨hu.cI hg (a.ge fp (List.mem_of_getElem? e)),?_⟩⟩;obtain⟨d,h1,_⟩:=a.ki hg hu hi e b;grind
theorem aj.gr(U:aj A H ts):bm A H:=U.1
theorem aj.nil(hg:bm A H):aj A H []:=⟨hg,[],trivial⟩
theorem aj.push(U:aj A H ts)(hg:bm H H')(h:t.P H' fp)(d:tp H fp):aj A H' (t::ts):=by obtain⟨g,fs,a⟩:=U;refine⟨g.trans hg,fp::fs,h,λj hj=>alj g.nx (d j hj),λj hj f b e=>?_,Fs.tg hg.nx a λf b j hj=>hg.dT j (a.lt f b j hj)⟩;have:=a.lt f b j e;have:=d j hj;omega
theorem aj.cI(U:aj A H ts)(hg:bm H H'):aj A H' ts:=by obtain⟨b,fs,a⟩:=U;exact⟨b.trans hg,fs,Fs.tg hg.nx a λf d j hj=>hg.dT j (a.lt f d j hj)⟩
theorem aj.tail(U:aj A H (t::ts)):aj A H ts:=by obtain⟨a,fs,b⟩:=U;cases fs with|nil=>trivial|cons f fs=>exact⟨a,fs,b.2.2.2⟩
theorem aj.fC(U:aj A H ts):∀{us:List Th},aj H H' us->aj A H' (us++ts)
 |us,o=>by
  obtain⟨hg,fs,p⟩:=o;have h0:=U.cI hg;induction us generalizing fs with
  |nil=>grind
  |cons t us i=>
   cases fs with
   |nil=>trivial
   |cons f fs=>
    obtain⟨h1,h2,h3,d⟩:=p;obtain⟨l,m,a⟩:=U;have key:∀{us:List Th}{fs:List (List ab)},Fs H H' fs us->∃ks,Fs A H' ks (us++ts)/\∀k∈ks,k∈fs\/k∈m:=by
     intro us;induction us with
     |nil=>intro fs _;exact⟨m,Fs.tg hg.nx a λf q j hj=>hg.dT j (a.lt f q j hj),λk b=>.inr b⟩
     |cons t us i=>
      intro fs h;cases fs with
      |nil=>exact h.elim
      |cons f fs=>
       obtain⟨h1,h2,h3,d⟩:=h;obtain⟨ks,g,n⟩:=i d;refine⟨f::ks,⟨h1,λj hj=>alj l.nx (h2 j hj),λj hj k b e=>?_,g⟩,λk b=>?_⟩
       .rcases n k b with h|h;·exact h3 j hj k h e
        have:=a.lt k h j e;have:=h2 j hj;omega
       rcases aeV.1 b with rfl|h;·exact .inl (aeU ..)
       exact(n k h).imp (aey _) id
    obtain⟨ks,g,_⟩:=key (us:=t::us) (fs:=f::fs) ⟨h1,h2,h3,d⟩;exact⟨l.trans hg,ks,g⟩
theorem aj.bX(U:aj A H ts)(a:H'.next=H.next)(hg:∀j,H'.get j=H.get j):aj A H' ts:=U.cI ⟨by grind,λj _=>hg j⟩
theorem aj.dc(H:ai):aj H H []:=aj.nil (bm.refl H)
theorem aj.drop(n:Nat)(U:aj A H ts):aj A H (ts.drop n):=by induction n generalizing ts with|zero=>grind|succ n a=>cases ts with|nil=>grind|cons t ts=>simpa using a U.tail
theorem Fs.Ny:∀{fs:List (List ab)}{ts:List Th}{i:Nat},Fs A H fs ts->ts[i]?=some t->∃fp a,t.P H fp/\tp A fp/\Fs A H a (ts.eraseIdx i)/\(∀g∈a,g∈fs)/\fp∈fs/\∀j∈fp,∀g∈a,j∉g|[],[],i,_,h=>by grind|[],_::_,_,h,_=>h.elim|_::_,[],_,h,_=>h.elim|b::fs,t0::ts,0,⟨h1,h2,h3,d⟩,f=>by grind[List.getElem?_cons_zero,adG,aey,aeU]|b::fs,t0::ts,i+1,⟨h1,h2,h3,d⟩,f=>by obtain⟨fp,a,k,l,m,n,o,p⟩:=Fs.Ny d f;refine⟨fp,b::a,k,l,⟨h1,h2,λj hj g hg=>h3 j hj g (n g hg),m⟩,λg hg=>?_,aey _ o,λj hj g hg e=>?_⟩;all_goals grind
theorem aj.gk(U:aj A H ts)(i:Nat)(hi:ts[i]?=some t):aj A H (t::ts.eraseIdx i):=by obtain⟨a,fs,b⟩:=U;obtain⟨fp,d,e,f,g,_,_,h⟩:=b.Ny hi;exact⟨a,fp::d,e,f,h,g⟩
theorem aj.get(U:aj A H ts)(i:Nat)(hi:ts[i]?=some t):∃fp,t.P H fp:=by obtain⟨fp,h,_⟩:=U.ki i hi;grind
theorem aj.as(U:aj A H ts)(i:Nat)(hi:ts[i]?=some t)(h:∀fp,t.P H fp->t'.P H fp):aj A H (ts.set i t'):=by obtain⟨fp,h1,_,h2⟩:=U.ki i hi;grind[oS.refl]
theorem aj.Nz(U:aj A H ts)(hg:bm B A):aj B H ts:=by
 obtain⟨b,fs,a⟩:=U;refine⟨hg.trans b,fs,?_⟩;induction fs generalizing ts with
 |nil=>cases ts with|nil=>trivial|cons _ _=>trivial
 |cons f fs d=>cases ts with|nil=>trivial|cons t ts=>exact⟨a.1,λj hj=>alj hg.nx (a.2.1 j hj),a.2.2.1,d a.2.2.2⟩
theorem Fs.cM(h:ts.Perm us):∀{fs:List (List ab)},Fs A H fs ts->∃d,Fs A H d us/\∀g,g∈d↔g∈fs:=by
 induction h with
 |nil=>grind
 |cons t _ m=>intro fs h;cases fs with|nil=>trivial|cons f fs=>obtain⟨h1,h2,h3,e⟩:=h;obtain⟨d,n,o⟩:=m e;exact⟨f::d,⟨h1,h2,λj hj g hg=>h3 j hj g ((o g).1 hg),n⟩,λg=>by grind⟩
 |swap a b l=>intro fs h;cases fs with|nil=>trivial|cons f fs=>cases fs with|nil=>exact h.2.2.2.elim|cons g fs=>obtain⟨h1,h2,h3,e,p,u,q⟩:=h;refine⟨g::f::fs,⟨e,p,λj hj k i=>?_,h1,h2,λj hj k i=>h3 j hj k (aey _ i),q⟩,λk=>by grind⟩;grind
 |trans _ _ r s=>grind
theorem aj.cM(U:aj A H ts)(h:ts.Perm us):aj A H us:=by obtain⟨a,fs,b⟩:=U;obtain⟨d,e,_⟩:=b.cM h;exact⟨a,d,e⟩
theorem aj.gF{xs:List Th}(U:aj A H (xs++ts++us)):aj A H (ts++(xs++us)):=by have:=U.cM (akH.append_right us);grind
theorem aj.kO{xs:List Th}(U:aj A H (ts++(xs++us))):aj A H (xs++ts++us):=by rw[<-aj2]at U;exact U.cM (akH.append_right us)
theorem aj.Ej(U:aj A H (t::ts++us)):aj A H (ts++t::us):=U.cM akj.symm
theorem aj.wy(U:aj A H (ts++t::us)):aj A H (t::ts++us):=U.cM akj
theorem Fs.sub(h:us.Sublist ts):∀{fs:List (List ab)},Fs A H fs ts->∃b,Fs A H b us/\∀g∈b,g∈fs:=by
 induction h with
 |slnil=>grind
 |cons a _ d=>intro fs h;cases fs with|nil=>trivial|cons f fs=>obtain⟨b,k,i⟩:=d h.2.2.2;grind
 |cons_cons a _ d=>intro fs h;cases fs with|nil=>trivial|cons f fs=>obtain⟨h1,h2,h3,l⟩:=h;obtain⟨b,k,i⟩:=d l;exact⟨f::b,⟨h1,h2,λj hj g hg=>h3 j hj g (i g hg),k⟩,λg hg=>(aeV.1 hg).elim (λe=>e▸aeU ..) λh=>aey _ (i g h)⟩
theorem aj.sub(U:aj A H ts)(h:us.Sublist ts):aj A H us:=by obtain⟨a,fs,b⟩:=U;obtain⟨d,e,_⟩:=b.sub h;exact⟨a,d,e⟩
theorem aj.skip{a:List Th}(U:aj A H (ts++a++us)):aj A H (ts++us):=by rw[aj2]at U;exact U.sub ((List.sublist_append_right a us).append_left ts)
end
section
def tS(e size:Nat)(vs:List AV)(n:Nat)(full:Bool)(sv:AV):Th where
 P H fp:=dU H fp e size vs n full sv
 fr h a hg:=h.frame a hg
 lt h:=h.below
def tB(e:Nat)(q:ab)(vs:List AV):Th where
 P H fp:=q∈fp/\(∀j∈fp,j=q)/\∃c,H.get q=.cells c vs.length e true [] 0/\(∀j(h:j<vs.length),c.bw .alR j=vs[j])/\q.an<H.next.an
 fr h b hg:=by
  obtain⟨h1,h2,c,h3,d,a⟩:=h
  exact⟨h1,h2,c,by rw[hg _ h1];exact h3,d,ako a b⟩
 lt h:=by
  obtain⟨_,h2,c,_,_,a⟩:=h
  intro j hj;rw[h2 j hj];exact a
variable{A H H':ai}{ts us:List Th}{e size n o m i k bytes:Nat}{vs ws:List AV}{sv v w:AV}{full ex:Bool}{q:ab}{cap:Nat}{fp:List ab}
variable{ac:Nat->aG}{c:Cx}{s:List SI}{L:Kn}{d:Option ab}{l:List be}
theorem ao{v:AV}{l:List AV}(h:v.ee=true)(h2:dS l=true):dS (v::l)=true:=by simp[h,h2,dS,alK]
theorem dU.NA(h:dU H fp e size vs n full (.slice q 0 n cap ex))(b:vs[o]?=some v):bh H q o=some v:=by
 obtain⟨a,e1⟩:=akR.1 b;have c:0<n:=by
  have:=h.sl.length;rcases Nat.eq_zero_or_pos n with e|e;·subst e;simp at this;rw[this]at a;simp at a
  exact e
 obtain⟨i,f,g,j,d,_,_,hat,_⟩:=h.sl.at c;grind
theorem tB.cell{fp:List ab}(h:(tB e q vs).P H fp)(b:vs[o]?=some v):bh H q o=some v:=by obtain⟨_,_,c,h3,d,_⟩:=h;obtain⟨a,e1⟩:=akR.1 b;simp only[bh,h3,show akv o vs.length=true from alN akY a,bq,d o a,e1]
theorem tB.qQ{fp:List ab}(h:(tB e q vs).P H fp)(a:o+m<=vs.length):fE H q o m=some ((vs.drop o).take m):=by obtain⟨_,_,c,h3,b,_⟩:=h;grind[yh,akF,alC,aly,fE]
def sp(vs:List AV)(o:Nat)(ws:List AV):List AV:=vs.take o++(ws++vs.drop (o+ws.length))
theorem HZ(h:o+ws.length<=vs.length):(sp vs o ws).length=vs.length:=by simp[sp];omega
theorem NB(h:o+ws.length<=vs.length)(j:Nat):(sp vs o ws)[j]?=if o<=j/\j<o+ws.length then ws[j - o]? else vs[j]?:=by unfold sp;grind
theorem V5(h:o<vs.length):sp vs o [w]=vs.set o w:=by
 apply List.ext_getElem?;intro j;rw[NB (by simp;omega),List.getElem?_set];simp only[akC];by_cases hj:o=j;·subst hj;rw[aK af,aK rfl,aK h];simp
 rw[aq af,aq hj]
theorem tB.wx{fp:List ab}(h:(tB e q vs).P H fp)(a:o+ws.length<=vs.length)(h1:dS ws=true):∃H' fp',iX H q o ws=some H'/\oS fp fp' H H'/\(tB e q (sp vs o ws)).P H' fp':=by
 obtain⟨d,h2,c,h3,f,g⟩:=h;have hd:(decide (0<=o)&&decide (o+ws.length<=vs.length)&&dS ws)=true:=by simp only[aj6,decide_eq_true_eq,h1,and_true];omega
 refine⟨(H.gh []).set q (.cells (fX c o ws) vs.length e true [] 0),[q],by simp only[iX,h3,hd,bq],⟨Nat.le_of_eq (by rw[ai.gD];rfl),λj hj=>?_,λj hj i=>?_⟩,aep.2 rfl,λj hj=>aep.1 hj,fX c o ws,?_,λj hj=>?_,by rw[ai.gD];exact g⟩;·rw[aep]at hj;subst hj;exact .inl d
 .rw[ai.aF,aq λe:j=q=>hj (by rw[e];exact d)];rfl
 .rw[ai.aF,aK rfl,HZ a]
 rw[HZ a]at hj;rw[nD];have:=NB a j;rw[getElem?_pos (sp vs o ws) j (by rw[HZ a];exact hj)]at this;split;·rename_i b;rw[aK b,getElem?_pos ws _ af]at this;injection this with this;simp only[akm];rw[getElem?_pos ws _ af];simp[this]
 rename_i b;rw[aq b,getElem?_pos vs _ hj]at this;injection this with this;rw[f j hj,this]
theorem RO.gU(U:aj A H ts)(i:Nat){x:aJ}(h:RO ac c l s (bC L d v) H)(a:bf L x=.az q o:=by exact cw)(hi:ts[i]?=some (tB e q vs):=by rfl)(b:vs[o]?=some v:=by rfl):RO ac c (⟨d,.aW x,none,[],[]⟩::l) s L H:=by obtain⟨fp,f⟩:=U.get i hi;grind[RO.aW,tB.cell]
theorem RO.eQ(U:aj A H ts)(i:Nat){x:aJ}(h:RO ac c l s (bC L d (.agg ((vs.drop o).take m))) H)(a:bf L x=.az q o:=by exact cw)(hi:ts[i]?=some (tB e q vs):=by rfl)(hm:o+m<=vs.length:=by first|decide|exact akc rfl|simp|omega):RO ac c (⟨d,.gw m x,none,[],[]⟩::l) s L H:=by obtain⟨fp,b⟩:=U.get i hi;grind[RO.gw,tB.qQ]
theorem RO.fD(U:aj A H ts)(i:Nat){x:aJ}(h:RO ac c l s (bC L d v) H)(a:bf L x=.az q o:=by exact cw)(hi:ts[i]?=some (tS e size vs n full (.slice q 0 n cap ex)):=by rfl)(hv:vs[o]?=some v:=by rfl):RO ac c (⟨d,.aW x,none,[],[]⟩::l) s L H:=by obtain⟨fp,b⟩:=U.get i hi;exact RO.aW h a (dU.NA b hv)
theorem RO.gG(U:aj A H ts)(i:Nat){a x:aJ}(h:∀H',aj A H' (ts.set i (tB e q (vs.set o w)))->RO ac c l s (bC L d .alR) H')(b:bf L a=.az q o:=by exact cw)(f:bf L x=w:=by exact cw)(hi:ts[i]?=some (tB e q vs):=by rfl)(g:o<vs.length:=by first|decide|exact akc rfl|simp|omega)(j:w.ee=true:=by first|rfl|assumption)(k:w.cells=[w]:=by first|rfl|assumption)(hd:w.bB=true:=by first|rfl|assumption):RO ac c (⟨d,.store 1 a x,none,[],[]⟩::l) s L H:=by obtain⟨fp,m,_,hu⟩:=U.ki i hi;grind[tB.wx,akC,dS,V5,RO.store]
theorem RO.iT(U:aj A H ts)(i:Nat){a x:aJ}(h:∀H',aj A H' (ts.set i (tB e q (sp vs o ws)))->RO ac c l s (bC L d .alR) H')(b:bf L a=.az q o:=by exact cw)(f:bf L x=.agg ws:=by exact cw)(hi:ts[i]?=some (tB e q vs):=by rfl)(g:o+ws.length<=vs.length:=by first|decide|exact akc rfl|simp|omega)(j:ws.length=n:=by first|rfl|simp)(k:dS ws=true:=by repeat first|rfl|assumption|(refine ao ?_ ?_)):RO ac c (⟨d,.store n a x,none,[],[]⟩::l) s L H:=by obtain⟨fp,m,_,hu⟩:=U.ki i hi;obtain⟨H',fp',h1,h2,h3⟩:=tB.wx (ws:=ws) m g k;exact RO.store (v:=.agg ws) h1 (h H' (hu h2 h3)) b f rfl j
theorem NC.set{b:Type}{f:b->AV}{a:List b}(h:dU H fp e 1 (a.map f) a.length full (.slice q 0 a.length cap ex))(c:k<a.length)(z:b)(h1:(f z).ee=true):∃H',iX H q (0+k*1) [f z]=some H'/\oS fp [q] H H'/\dU H' [q] e 1 ((a.set k z).map f) (a.set k z).length full (.slice q 0 (a.set k z).length cap ex):=by
 have d:=(dU.mem h).2.1;have:=dU.wx h (o:=0+k*1) (ws:=[f z]) (us:=(a.set k z).map f) (by simp;omega) (by simp[dS,h1]) aB λj hj=>by
  simp only[akg]at hj;simp only[aks,List.getElem?_set,akC];by_cases e:k=j;·subst e;rw[aK rfl,aK af];simp[c]
  rw[aq e,aq af]
 grind
theorem RO.lC{b:Type}{f:b->AV}{zs:List b}(U:aj A H ts)(i:Nat)(z:b)(g:zs.length=n){a x:aJ}(h:∀H',aj A H' (ts.set i (tS e 1 ((zs.set k z).map f) n full (.slice q 0 n cap ex)))->RO ac c l s (bC L d .alR) H')(j:bf L a=.az q (0+k*1):=by exact cw)(m:bf L x=f z:=by exact cw)(hi:ts[i]?=some (tS e 1 (zs.map f) n full (.slice q 0 n cap ex)):=by rfl)(ho:k<zs.length:=by first|omega|assumption)(o:(f z).ee=true:=by first|rfl|assumption)(r:(f z).cells=[f z]:=by first|rfl|assumption)(hd:(f z).bB=true:=by first|rfl|assumption):RO ac c (⟨d,.store 1 a x,none,[],[]⟩::l) s L H:=by subst g;obtain⟨fp,p,_,hu⟩:=U.ki i hi;obtain⟨H',h1,h2,h3⟩:=NC.set (k:=k) p ho z o;refine RO.store (by grind) (h H' ?_) j m hd (by grind);have:=hu (t':=tS e 1 ((zs.set k z).map f) (zs.set k z).length full (.slice q 0 (zs.set k z).length cap ex)) h2 h3;grind
theorem qR{a:Type}{f:a->AV}{b:List a}(z:a)(c:k<b.length):(b.map f)[0+k*1]?=some (f (b.getD k z)):=by grind
theorem tB.new(e:Nat)(vs:List AV)(H:ai):(tB e H.next vs).P (H.new (.cells (db vs) vs.length e true [] 0)) [H.next]:=⟨aep.2 rfl,λj hj=>aep.1 hj,db vs,by rw[ai.dJ,aK rfl],λj hj=>Ao hj,by rw[ai.nK];omega⟩
theorem uU(H:ai):tp H [H.next]:=λj hj=>by grind
theorem aj.Ic(U:aj A H ts)(e:Nat)(vs:List AV):aj A (H.new (.cells (db vs) vs.length e true [] 0)) (tB e H.next vs::ts):=U.push (bm.new H _) (tB.new e vs H) (uU H)
theorem RO.dL(U:aj A H ts){x:aJ}(h:∀H' q,aj A H' (tB e q v.cells::ts)->RO ac c l s (bC L d (.az q 0)) H')(a:bf L x=v:=by exact cw)(b:v.bB=true:=by first|rfl|assumption)(ho:dS v.cells=true:=by repeat first|rfl|assumption|(refine ao ?_ ?_)):RO ac c (⟨d,.box e x,none,[],[]⟩::l) s L H:=RO.box (h _ _ (U.Ic e v.cells)) a b ho
theorem RO.gI(U:aj A H ts){a:List AV}(h:∀H' q,aj A H' (tB e q a::ts)->RO ac c l s (bC L d (.az q 0)) H'):RO ac c (⟨d,.alloc e a,none,[],[]⟩::l) s L H:=RO.alloc (h _ _ (U.Ic e a))
theorem RO.fx(U:aj A H ts){p:ab}{a us:List AV}{x:aJ}{xv:AV}(h:∀H' q,aj A H' (tB e q us::ts)->RO ac c l s ((p,.az q 0)::L) H')(f:∀w,bf ((p,w)::L) x=xv:=by(intro w;conv=>lhs;whnf)<;>rfl)(k:xv.cells=us:=by first|rfl|assumption)(m:us.length=n:=by first|rfl|simp)(o:a.length=n:=by rfl)(h1:dS us=true:=by repeat first|rfl|assumption|(refine ao ?_ ?_))(hd:xv.bB=true:=by first|rfl|assumption):RO ac c (⟨some p,.alloc e a,none,[],[]⟩::⟨none,.store n (.t p) x,none,[],[]⟩::l) s L H:=by
 refine RO.gI U λH1 q b=>?_;obtain⟨fp,g,_,hu⟩:=b.ki 0 rfl;obtain⟨H',fp',r,i,d⟩:=tB.wx (o:=0) (ws:=us) g af h1;have j:sp a 0 us=us:=by simp[sp,List.drop_eq_nil_of_le (show a.length<=us.length by omega)]
 rw[j]at d;exact RO.store (i:=q) (o:=0) (v:=xv) (by grind) (h H' q (hu i d)) (by show lk (bC L (some p) _) p=_;simp only[bC,lk,ab.ip.2 rfl]) (f _) hd (by grind)
theorem RO.oT(U:aj A H ts){a:List AV}{x y:aJ}(h:∀H' q,aj A H' (tS e size (fO a n) n true (.slice q 0 n n true)::ts)->RO ac c l s (bC L d (.slice q 0 n n true)) H')(hx:bf L x=.int 3 (.ofNat n):=by exact cw)(hy:bf L y=.int 3 (.ofNat n):=by exact cw)(hz:(fO a n).length=n*size)(hb:n*bytes<=70368744177664:=by omega)(b:n<=70368744177664:=by omega):RO ac c (⟨d,.jL e bytes size a x y,none,[],[]⟩::l) s L H:=RO.jL (h _ _ (U.push (bm.new H _) (dU.new hz true true) (uU H))) hx hy
theorem iZ(z:AV):∀n,fO [z] n=ahr n z|0=>rfl|n+1=>by simp only[fO,iZ z n];rfl
theorem RO.qS(U:aj A H ts)(size:Nat){b:List AV}(h:∀H' v,aj A H' (tS e size [] 0 true v::ts)->RO ac c l s (bC L d v) H'):RO ac c (⟨d,.buildSlice e 0 b [],none,[],[]⟩::l) s L H:=RO.V3 (size:=size) λH' a fp' h1 h2 h3=>h H' a (U.push h2 h1 h3)
theorem aj.py(U:aj A H ts)(e size:Nat):aj A H (tS e size [] 0 true .aS::ts):=U.push (fp:=[]) (bm.refl H) (.inl ⟨rfl,rfl,rfl,rfl⟩) λj hj=>by grind
theorem RO.pZ(U:aj A H ts)(i:Nat){x y:aJ}{b:AV}{f:List AV}(hs:Sl H size ws k b)(h:∀H' v,aj A H' (ts.set i (tS e size (vs++ws) (n+k) true v))->RO ac c l s (bC L d v) H')(hi:ts[i]?=some (tS e size vs n true sv):=by rfl)(h1:dS ws=true:=by repeat first|rfl|assumption|(refine ao ?_ ?_))(g:bf L x=sv:=by exact cw)(j:bf L y=b:=by exact cw)(hb:(n+k)*bytes<=70368744177664:=by omega)(m:n+k<=70368744177664:=by omega):RO ac c (⟨d,.append e bytes size f false x y,none,[],[]⟩::l) s L H:=by obtain⟨fp,o,_,hu⟩:=U.ki i hi;exact RO.V4 o hs h1 (λa H' fp' p q=>h H' a (hu q p)) g j hb m
theorem RO.push(U:aj A H ts)(i:Nat){p:ab}{x:aJ}{b:List (Nat×Nat×aJ)}{f a:List AV}(h:∀w H' v,aj A H' (ts.set i (tS e size (vs++ws) (n+1) true v))->RO ac c l s (bC ((p,w)::L) d v) H')(hi:ts[i]?=some (tS e size vs n true sv):=by rfl)(hl:qO L (fO f 1) b=some ws:=by exact cw)(j:ws.length=size:=by first|rfl|simp)(h1:dS ws=true:=by repeat first|rfl|assumption|(refine ao ?_ ?_))(g:∀w,bf ((p,w)::L) x=sv:=by(intro w;conv=>lhs;whnf)<;>rfl)(hb:(n+1)*bytes<=70368744177664:=by omega)(hn:n+1<=70368744177664:=by omega):RO ac c (⟨some p,.buildSlice e 1 f b,none,[],[]⟩::⟨d,.append e bytes size a false x (.t p),none,[],[]⟩::l) s L H:=by
 refine RO.buildSlice ?_ hl h1;have hg:bm H (H.new (.cells (db ws) ws.length e true [] 0)):=bm.new H _;have hs:Sl (H.new (.cells (db ws) ws.length e true [] 0)) size ws 1 (.slice H.next 0 1 1 true):=by have:=(dU.new (H:=H) (e:=e) (size:=size) (n:=1) (vs:=ws) af true true).sl;rw[show ws.length=1*size by omega];exact this
 exact RO.pZ (U.cI hg) i hs (λH' v h2=>h _ H' v h2) hi h1 (g _) (by show lk (bC L (some p) _) p=_;simp only[bC,lk,ab.ip.2 rfl]) hb hn
theorem RO.lf(U:aj A H ts)(size:Nat){a:List (Nat×Nat×aJ)}{b:List AV}(h:∀H' q,aj A H' (tS e size ws n true (.slice q 0 n n true)::ts)->RO ac c l s (bC L d (.slice q 0 n n true)) H')(hl:qO L (fO b n) a=some ws:=by exact cw)(f:ws.length=n*size:=by rfl)(h1:dS ws=true:=by repeat first|rfl|assumption|(refine ao ?_ ?_)):RO ac c (⟨d,.buildSlice e n b a,none,[],[]⟩::l) s L H:=by refine RO.buildSlice ?_ hl h1;rw[f];exact h _ _ (U.push (bm.new H _) (dU.new f true true) (uU H))
theorem aj.uT(U:aj A H ts)(i:Nat)(hi:ts[i]?=some (tS e size vs n full sv))(a:n≠0):∃q cap ex,sv=.slice q 0 n cap ex:=by obtain⟨fp,b⟩:=U.get i hi;exact dU.uT b a
theorem Sl.all(h:Sl H size vs n sv):sv.bB=true/\sv.ee=true/\sv.cells=[sv]/\lenOf sv=some n:=⟨h.bB,h.ee,h.cells,h.len⟩
theorem aj.sl(U:aj A H ts)(i:Nat)(hi:ts[i]?=some (tS e size vs n full sv):=by rfl):Sl H size vs n sv:=by obtain⟨fp,a⟩:=U.get i hi;exact dU.sl a
theorem up{P:Nat->Prop}(n:Nat)(h:∀k,k<=n->(∀j,k<j->j<=n->P j)->P k):∀k,k<=n->P k:=by
 have:∀d k,n - k=d->k<=n->P k:=by intro d;induction d using Nat.strongRecOn with|ind d a=>intro k hd b;exact h k b λj h1 h2=>a (n - j) af j rfl h2
 grind
end
end Go.am
namespace Go.G
structure ic where
 op:Nat
 to:Int
 args:List Int
 n:Int
 m:Int
 name:List Nat
 deriving Inhabited
structure Edge where
 block:Int
 args:List Int
 deriving Inhabited
structure lD where
 op:Nat
 args:List Int
 name:List Nat
 b9:List Nat
 go:List Edge
 deriving Inhabited
structure gV where
 params:List Int
 aD:List ic
 aA:lD
 deriving Inhabited
structure bu where
 name:List Nat
 params:Int
 bp:Int
 al:List gV
 deriving Inhabited
end Go.G
namespace Go.G
structure Sm(g:bu):Prop where
 nb:g.al.length<=5000
 bl:∀b∈g.al,b.params.length<=12/\b.aD.length<=40/\b.aA.args.length<=12/\b.aA.b9.length<=12/\b.aA.go.length<=12/\b.aA.name.length<=60
 st:∀b∈g.al,∀s∈b.aD,s.args.length<=12/\s.name.length<=250
 ed:∀b∈g.al,∀e∈b.aA.go,e.args.length<=12
end Go.G
namespace Go.am
abbrev aU(n:Nat):AV:=.int 4 (.ofNat n)
abbrev Ie(H:ai)(l:List Nat)(sv:AV):Prop:=Sl H 1 (l.map aU) l.length sv
def dV{h:Type}(size:Nat)(R:ai->h->List AV->Prop)(H:ai)(l:List h)(sv:AV):Prop:=
 ∃a,Sl H size a l.length sv/\∀k(b:k<l.length),R H l[k] ((a.drop (k*size)).take size)
def dQ{h c:Type}(R:ai->h->c->Prop):Prop:=∀{H d:ai}{a:h}{b:c},bm H d->R H a b->R d a b
def sa(H:ai)(e:G.Edge)(cs:List AV):Prop:=∃v,cs=[aI e.block,v]/\fZ H e.args v
def qT(H:ai)(s:G.ic)(cs:List AV):Prop:=∃v,cs=[aU s.op,aI s.to,v,aI s.n,aI s.m,.str s.name]/\fZ H s.args v
def tw(H:ai)(j:G.lD)(cs:List AV):Prop:=∃a b c,cs=[aU j.op,a,.str j.name,b,c]/\fZ H j.args a/\Ie H j.b9 b/\dV 2 sa H j.go c
def kj(H:ai)(b:G.gV)(cs:List AV):Prop:=∃a c d,cs=a::c::d/\fZ H b.params a/\dV 6 qT H b.aD c/\tw H b.aA d
def iG(H:ai)(g:G.bu)(cs:List AV):Prop:=∃a,cs=[.str g.name,aI g.params,aI g.bp,a]/\dV 7 kj H g.al a
theorem dQ.jU{h:Type}{size:Nat}{R:ai->h->List AV->Prop}(a:dQ R):dQ (dV size R):=λg⟨b,h1,h2⟩=>⟨b,g.sl h1,λk c=>a g (h2 k c)⟩
theorem dQ.If:dQ sa:=λg⟨v,h1,h2⟩=>⟨v,h1,g.sl h2⟩
theorem dQ.step:dQ qT:=λg⟨v,h1,h2⟩=>⟨v,h1,g.sl h2⟩
theorem dQ.Ig:dQ tw:=λg⟨a,b,c,h1,h2,h3,d⟩=>⟨a,b,c,h1,g.sl h2,g.sl h3,dQ.If.jU g d⟩
theorem dQ.block:dQ kj:=λg⟨a,b,c,h1,h2,h3,d⟩=>⟨a,b,c,h1,g.sl h2,dQ.step.jU g h3,dQ.Ig g d⟩
theorem dQ.nM:dQ iG:=λg⟨a,h1,h2⟩=>⟨a,h1,dQ.block.jU g h2⟩
variable{h:Type}{size n k:Nat}{R:ai->h->List AV->Prop}{H:ai}{la:List h}{sv:AV}
theorem dV.len(b:dV size R H la sv):lenOf sv=some la.length:=by obtain⟨a,b,_⟩:=b;exact b.len
theorem dV.bB(b:dV size R H la sv):sv.bB=true:=by obtain⟨a,b,_⟩:=b;exact b.bB
theorem dV.ee(b:dV size R H la sv):sv.ee=true:=by obtain⟨a,b,_⟩:=b;exact b.ee
theorem dV.cells(b:dV size R H la sv):sv.cells=[sv]:=by obtain⟨a,b,_⟩:=b;exact b.cells
theorem dV.all(a:dV size R H la sv):sv.bB=true/\sv.ee=true/\sv.cells=[sv]/\lenOf sv=some la.length:=⟨a.bB,a.ee,a.cells,a.len⟩
theorem dV.at(g:dV size R H la sv)(a:k<la.length):∃q o cap ex cs,sv=.slice q o la.length cap ex/\R H la[k] cs/\cs.length=size/\(∀j v,cs[j]?=some v->bh H q (o+k*size+j)=some v)/\fE H q (o+k*size) size=some cs:=by
 obtain⟨b,h1,h2⟩:=g;have hl:=h1.length;have c:k*size+size<=b.length:=by rw[hl,<-Nat.succ_mul];exact aky _ a
 obtain⟨q,o,cap,ex,e,_,_,d,f⟩:=h1.at af;grind
theorem sa.one{e:G.Edge}{cs:List AV}(a:sa H e cs):dS cs=true:=by obtain⟨v,rfl,a⟩:=a;exact ao rfl (ao a.ee rfl)
theorem qT.one{e:G.ic}{cs:List AV}(a:qT H e cs):dS cs=true:=by obtain⟨v,rfl,a⟩:=a;exact ao rfl (ao rfl (ao a.ee rfl))
theorem tw.one{e:G.lD}{cs:List AV}(d:tw H e cs):dS cs=true:=by obtain⟨a,b,c,rfl,h1,h2,h3⟩:=d;exact ao rfl (ao h1.ee (ao rfl (ao h2.ee (ao h3.ee rfl))))
theorem kj.one{e:G.gV}{cs:List AV}(d:kj H e cs):dS cs=true:=by obtain⟨a,b,c,rfl,h1,h2,h3⟩:=d;exact ao h1.ee (ao h2.ee h3.one)
theorem iG.one{e:G.bu}{cs:List AV}(a:iG H e cs):dS cs=true:=by obtain⟨v,rfl,a⟩:=a;exact ao rfl (ao rfl (ao rfl (ao a.ee rfl)))
variable{ac:Nat->aG}{c:Cx}{s:List SI}{L:Kn}{d:Option ab}{l:List be}
theorem RO.cZ{B:ai}(hg:bm B H){x y:aJ}{j kd:Nat}(hs:dV size R B la sv)(n:∀q o cs(hj:j<la.length),R B la[j] cs->cs.length=size->(∀t v,cs[t]?=some v->bh H q (o+t)=some v)->fE H q o size=some cs->RO ac c l s (bC L d (.az q o)) H)(e:bf L x=sv:=by exact cw)(f:bf L y=.int kd (.ofNat j):=by exact cw)(hj:j<la.length:=by first|assumption|omega):RO ac c (⟨d,.dG size x y,none,[],[]⟩::l) s L H:=by
 obtain⟨q,o,cap,ex,cs,rfl,h1,h2,h3,g⟩:=hs.at hj;have k:∀t,bh H q t=bh B q t/\fE H q t size=fE B q t size:=λt=>by
  obtain⟨m,b,_⟩:=hs;have a:q.an<B.next.an:=by
   rcases b with⟨n,_⟩|⟨i,_,_,_,_,_,_,_,_,_,n,_,_,_,_,hi,_⟩;·cases n
   injection n with n;subst n;exact hi
  exact⟨hg.bh a t,by simp only[fE,hg.dT q a]⟩
 grind[RO.dG,trans]
theorem RO.kz{B:ai}(hg:bm B H){a:List Int}{x y:aJ}{j kd:Nat}(hs:fZ B a sv)(i:∀q o(hj:j<a.length),bh H q o=some (aI a[j])->RO ac c l s (bC L d (.az q o)) H)(b:bf L x=sv:=by exact cw)(e:bf L y=.int kd (.ofNat j):=by exact cw)(hj:j<a.length:=by first|assumption|omega):RO ac c (⟨d,.dG 1 x y,none,[],[]⟩::l) s L H:=RO.V1 (hg.sl hs) (λq o z f g _=>i q o hj (by grind)) b e hj
theorem RO.lg{B:ai}(hg:bm B H){f:h->AV}{x y:aJ}{j kd:Nat}(hs:Sl B 1 (la.map f) la.length sv)(m:∀q o(hj:j<la.length),bh H q o=some (f la[j])->RO ac c l s (bC L d (.az q o)) H)(b:bf L x=sv:=by exact cw)(e:bf L y=.int kd (.ofNat j):=by exact cw)(hj:j<la.length:=by first|assumption|omega):RO ac c (⟨d,.dG 1 x y,none,[],[]⟩::l) s L H:=RO.cZ (R:=λ_ a cs=>cs=[f a]) hg ⟨_,hs,λk g=>by simp[g,alt,aj9]⟩ (λq o cs hj i _ hat _=>m q o hj (by subst i;exact hat 0 _ rfl)) b e hj
theorem RO.V6{B:ai}{g:List AV}{n e:Nat}{x y:aJ}{b k:Nat}(hs:Sl B size g n sv)(z:∀a,Sl B size (g.take (b*size)) b a->RO ac c l s (bC L d a) H)(p:bf L x=sv:=by exact cw)(q:bf L y=.int k (.ofNat b):=by exact cw)(hb:b<=n:=by omega):RO ac c (⟨d,.im e size x none (some y) none,none,[],[]⟩::l) s L H:=by
 rcases hs with⟨rfl,rfl,rfl⟩|⟨i,o,cap,ex,t,m,u,f,aM,fz,rfl,hg,w,hl,v,hi,r⟩;·have:b=0:=af;subst this;refine RO.Cb (m:=0) (b:=0) (a:=0) p rfl ?_ rfl (z _ (.inl ⟨rfl,rfl,aB⟩));simp only[l7,q];rfl
 refine RO.im (m:=cap) (b:=b) (a:=0) p rfl ?_ rfl aB ?_;·simp only[l7,q];exact tu af
 have e1:(if ex&&decide (cap=0)then o else o+0*size)=o:=by split<;>omega
 rw[e1,alJ,alJ];have cA:b*size<=n*size:=aky _ hb;refine z _ (.inr ⟨i,o,cap,_,t,m,u,f,aM,fz,rfl,hg,af,?_,λj hj=>?_,hi,af⟩);·rw[akF];omega
 rw[akF]at hj;rw[v j af];simp
theorem RO.V7{p:List AV}{n e:Nat}{x y:aJ}{b k o cap:Nat}{q:ab}(hs:Sl H size p n (.slice q o n cap true))(D:∀a,Sl H size (p.drop (b*size)) (n - b) a->RO ac c l s (bC L d a) H)(u:bf L x=.slice q o n cap true:=by exact cw)(hy:bf L y=.int k (.ofNat b):=by exact cw)(hb:b<=n:=by omega):RO ac c (⟨d,.im e size x (some y) none none,none,[],[]⟩::l) s L H:=by
 rcases hs with⟨h0,_⟩|⟨i,B,r,ex,v,m,w,f,aM,fz,h0,hg,C,hl,z,hi,t⟩;·grind
 injection h0 with h1 h2 _ h3 A;subst h1;subst h2;subst h3;subst A;refine RO.im (m:=cap) (b:=n) (a:=b) u rfl (by simp[l7]) ?_ aB ?_;·simp only[l7,hy];exact tu hb
 have cA:b*size<=n*size:=aky _ hb;refine D _ (.inr ⟨q,_,_,_,v,m,w,f,aM,fz,rfl,hg,?_,?_,λj hj=>?_,hi,af⟩);·rw[Nat.sub_mul];split<;>omega
 .rw[alC,hl,Nat.sub_mul]
 rw[alC]at hj;split;·rename_i g;simp only[Bool.true_and,decide_eq_true_eq]at g;have:b=n:=af;subst this;omega
 rw[alo,z (b*size+j) af];simp
theorem RO.V8{B:ai}{e:Nat}{x y:aJ}{b k:Nat}(hs:dV size R B la sv)(m:∀a,dV size R B (la.take b) a->RO ac c l s (bC L d a) H)(g:bf L x=sv:=by exact cw)(i:bf L y=.int k (.ofNat b):=by exact cw)(hb:b<=la.length:=by omega):RO ac c (⟨d,.im e size x none (some y) none,none,[],[]⟩::l) s L H:=by obtain⟨j,h1,h2⟩:=hs;refine RO.V6 h1 (λa h3=>m a ⟨_,by rw[akF,aly hb];exact h3,λk f=>?_⟩) g i hb;rw[akF,aly hb]at f;have:=h2 k af;rw[List.getElem_take,List.drop_take,List.take_take,aly (by have:(k+1)*size<=b*size:=aky _ f;rw[Nat.succ_mul]at this;omega)];exact this
def pk(M:Kn):List ab->Kn
 |[]=>[]
 |p::l=>(p,lk M p)::pk M l
theorem Ru.nm{H:ai}(a:∀S M,S=s->M=L->Ru ac c S M H):Ru ac c s L H:=a s L rfl rfl
theorem ky.pk(M:Kn):∀a,ky (pk M a) M|[]=>trivial|_::l=>⟨rfl,ky.pk M l⟩
theorem ky.wz{M K:Kn}(h2:ky K M):∀{l:Kn},ky l M->ky (l++K) M|[],_=>h2|_::_,a=>⟨a.1,ky.wz h2 a.2⟩
theorem Ru.cC{M L cO:Kn}{a:List ab}{H:ai}(b:M=L)(d:Ru ac c s (cO++pk M a) H)(hl:ky cO L:=by repeat'(first|exact trivial|refine⟨rfl,?_⟩)):Ru ac c s M H:=d.rZ (ky.wz (ky.pk M a) (by grind))
theorem Ru.wk{M:Kn}{H:ai}(a:Ru ac c s L H)(hl:ky L M:=by repeat'(first|exact trivial|refine⟨rfl,?_⟩)):Ru ac c s M H:=a.rZ hl
end Go.am
namespace Go.am.R
section
open Go.am Go.Proofs
abbrev x9(n:Nat):={a:aG//(Tryz.prog.funcs[n]?).bind (uA Tryz.prog)=some a}
abbrev pL:Program:={toTables:=Tryz.progTables,funcs:= #[]}
def j5(n:Nat):Code->Option bt
 |.region _ o d=>do
  let l<-o.toList.mapM (sP pL n o)
  some (.region (if d then sQ l (Region.before o) [] (order l (Region.before o) o.size 0 [])else l))
 |.seq a b=>do
  let a<-j5 n a
  let b<-j5 n b
  some (match Ov.ez (.seq a b)with
   |some t=>.ez t
   |none=>.seq a b)
 |.cond c a b=>do some (.cond (<-hZ pL n c) (<-j5 n a) (<-j5 n b))
 |.block i b=>(j5 n b).map (.block i)
 |.loop b=>(j5 n b).map .loop
 |.rangeFunc f p a b=>do some (.rangeFunc (<-hZ pL n f) (p.toList.map ab.dF) (<-j5 n a) (<-j5 n b))
 |.scope b=>j5 n b
 |.exit i=>some (.exit i)
 |.ret=>some .ret
 |_=>some .skip
def X3(f:Func):Option aG:=do some (.code f.ntmps (<-f.results.toList.mapM (Bq pL f.ntmps)) (<-j5 f.ntmps (<-f.body)))
theorem ilN(n:Nat): @OfNat.ofNat Int n (@instOfNat n)=ak1 (@OfNat.ofNat Nat n (instOfNatNat n)):=rfl
theorem X4(n:Nat): -ak1 (n+1)=Int.negSucc n:=rfl
theorem z0{a b:aG}{o:Option aG}(f:Func)(h:X3 f=some a:=by cbv)(e:a=b:=by simp -failIfUnchanged only[ilN,X4];rfl)(k:o=some b:=by kernel_rfl):o=some b:=k
end
end Go.am.R
end
