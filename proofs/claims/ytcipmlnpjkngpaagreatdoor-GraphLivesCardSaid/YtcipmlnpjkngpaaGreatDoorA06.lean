/- A part. No conditions. -/
import Derived.Test.YtcipmlnpjkngpaaGreatDoorA05
import Derived.Test.YtcipmlnpjkngpaaGreatDoorProg
import Derived.KernelRfl
set_option linter.all false
open List renaming replicate->aeo
open Nat renaming beq->aeF,blt->ae0,ble->afx
open Int renaming ofNat->afq
open Eq renaming mpr->agu
noncomputable section
namespace Go.ak
section
theorem cw{d:Type}{a b:d}(h:a=b:=by(conv=>lhs;whnf)<;>rfl):a=b:=h
theorem eg{p:Prop}(h:p:=by repeat'(first|exact trivial|refine⟨rfl,?_⟩)):p:=h
variable{ac:Nat->aX}
abbrev Kn:=List (af×AV)
def lk:Kn->af->AV
 |[],_=>.ct
 |(q,v)::l,p=>match af.beq q p with
  |true=>v
  |false=>lk l p
def Le(L:Kn)(aa:am AV):Prop:=∀p v,lk L p=v->v=.ct\/aa.get .agx p=v
def aT(L:Kn):aK->AV
 |.t p=>lk L p
 |.c v=>v
def bj(L:Kn)(d:Option af)(v:AV):Kn:=
 match d with
 |some p=>(p,v)::L
 |none=>L
theorem Le.get{L:Kn}{aa:am AV}(h:Le L aa){p:af}{v:AV}(b:lk L p=v)(a:v.bq=true):aa.get .agx p=v:=by
 rcases h p v b with e|e;·rw[e]at a;cases a
 exact e
theorem Le.gv{L:Kn}{aa:am AV}(h:Le L aa){x:aK}{v:AV}(a:aT L x=v)(b:v.bq=true):gv aa x=v:=by cases x with|t p=>exact h.get a b|c w=>exact a
theorem Le.set{L:Kn}{aa:am AV}(h:Le L aa)(d:Option af)(v:AV):Le (bj L d v) (aO aa d v):=by cases d with|none=>exact h|some p=>intro q w a;simp only[bj,aO,lk]at a⊢;rw[am.aJ];cases hb:af.beq p q with|true=>rw[hb]at a;rw[aH (af.fo.1 hb).symm];exact .inr a|false=>rw[hb]at a;rw[ap λe=>by rw[e,af.fo.2 rfl]at hb;cases hb];exact h q w a
def iR:Kn->Kn->Prop
 |[],_=>True
 |(p,v)::l,m=>lk m p=v/\iR l m
theorem iR.get:∀{l m:Kn},iR l m->∀p v,lk l p=v->v=.ct\/lk m p=v|[],_,_,p,v,h=>.inl h.symm|(q,w)::l,m,h,p,v,a=>by simp only[lk]at a;cases hb:af.beq q p with|true=>rw[hb]at a;rw[<-af.fo.1 hb];exact .inr (h.1.trans a)|false=>rw[hb]at a;exact iR.get h.2 p v a
theorem Le.ph{L M:Kn}{aa:am AV}(h:iR L M)(a:Le M aa):Le L aa:=λp v b=>by
 rcases h.get p v b with e|e;·exact .inl e
 exact a p v e
inductive SI where
 |code(c:bg)
 |be(id:Nat)
structure Cx where
 K:bU->Fr->ai->Prop
 M:List af
 R:Option af
def iD(ac:Nat->aX)(K:bU->Fr->ai->Prop):List SI->bU->Fr->ai->Prop
 |[],j,fr,H=>K j fr H
 |.code c::s,j,fr,H=>match j with
  |.none=>∃n,Xc ac n c fr H (iD ac K s)
  |j=>iD ac K s j fr H
 |.be id::s,j,fr,H=>match j with
  |.exit i=>if aeF i id then iD ac K s .none fr H else iD ac K s (.exit i) fr H
  |j=>iD ac K s j fr H
def RJ(ac:Nat->aX)(c:Cx)(j:bU)(s:List SI)(L:Kn)(H:ai):Prop:=∀aa,Le L aa->iD ac c.K s j ⟨aa,c.M,c.R⟩ H
def Ru(ac:Nat->aX)(c:Cx)(s:List SI)(L:Kn)(H:ai):Prop:=RJ ac c .none s L H
def RO(ac:Nat->aX)(c:Cx)(l:List bu)(s:List SI)(L:Kn)(H:ai):Prop:=∀aa,Le L aa->∃n,Xo ac n l ⟨aa,c.M,c.R⟩ H (iD ac c.K s .none)
def YF(ac:Nat->aX)(f:AV)(args:List AV)(H:ai)(K:KT):Prop:=∃n,Xf ac n f args H K
abbrev YN(ac:Nat->aX)(f:Nat):=YF ac (.func f [] [])
variable{c:Cx}{s:List SI}{L:Kn}{H:ai}
theorem Ru.ph{M:Kn}(h:Ru ac c s L H)(hl:iR L M):Ru ac c s M H:=λaa a=>h aa (a.ph hl)
theorem YF.mono{f:AV}{args:List AV}{K a:KT}(h:YF ac f args H K)(b:∀v H,K v H->a v H):YF ac f args H a:=by obtain⟨n,h⟩:=h;exact⟨n,h.mono (aeq _) b⟩
theorem jT{n:Nat}{a:bg}{s:List SI}{b:bg}{fr:Fr}{K:bU->Fr->ai->Prop}(h:Xc ac n a fr H (iD ac K (.code b::s))):∃k,Xc ac k a fr H λj fr H=>match j with|.none=>Xc ac k b fr H (iD ac K s)|j=>iD ac K s j fr H:=by obtain⟨m,e⟩:=(vP ac n).exec (K:=λm j fr H=>match j with|.none=>Xc ac m b fr H (iD ac K s)|j=>iD ac K s j fr H) (λm f j fr H d hj=>by cases j with|none=>exact hj.mono d λ_ _ _ h=>h|exit i=>exact hj|ret=>exact hj) ((mono ac n).exec (aeq _) (λj fr H hj=>by cases j with|none=>exact hj|exit i=>exact⟨0,hj⟩|ret=>exact⟨0,hj⟩) h);refine⟨max n m,(show Xc ac n a fr H _ from e).mono (Nat.le_max_left ..) λj fr H hj=>?_⟩;cases j with|none=>exact(show Xc ac m b fr H _ from hj).mono (Nat.le_max_right ..) λ_ _ _ h=>h|exit i=>exact hj|ret=>exact hj
theorem Ru.seq{a b:bg}(h:Ru ac c (.code a:: .code b::s) L H):Ru ac c (.code (.seq a b)::s) L H:=λaa d=>by obtain⟨n,e⟩:=h aa d;obtain⟨k,f⟩:=jT e;exact⟨k+1,Xc.seq f⟩
theorem Ru.loop{b:bg}(h:Ru ac c (.code b:: .code (.loop b)::s) L H):Ru ac c (.code (.loop b)::s) L H:=λaa a=>by obtain⟨n,d⟩:=h aa a;obtain⟨k,e⟩:=jT d;exact⟨k+1,Xc.loop e⟩
theorem Ru.region{l:List bu}(h:RO ac c l s L H):Ru ac c (.code (.region l)::s) L H:=λaa a=>by obtain⟨n,b⟩:=h aa a;exact⟨n+1,Xc.region b⟩
theorem Ru.skip(h:Ru ac c s L H):Ru ac c (.code .skip::s) L H:=λaa a=>⟨1,Xc.skip (h aa a)⟩
theorem Ru.block{id:Nat}{b:bg}(h:Ru ac c (.code b:: .be id::s) L H):Ru ac c (.code (.block id b)::s) L H:=λaa a=>by obtain⟨n,d⟩:=h aa a;exact⟨n+1,Xc.block (d.mono (aeq _) λj fr H hj=>by cases j<;>exact hj)⟩
theorem Ru.rp{x:aK}{a b:bg}(h:Ru ac c (.code a::s) L H)(e:aT L x=.bool true:=by exact cw):Ru ac c (.code (.cond x a b)::s) L H:=λaa d=>by obtain⟨n,f⟩:=h aa d;exact⟨n+1,Xc.rp (d.gv e rfl) f⟩
theorem Ru.nU{x:aK}{a b:bg}(h:Ru ac c (.code b::s) L H)(e:aT L x=.bool false:=by exact cw):Ru ac c (.code (.cond x a b)::s) L H:=λaa d=>by obtain⟨n,f⟩:=h aa d;exact⟨n+1,Xc.nU (d.gv e rfl) f⟩
theorem Ru.eh{x:aK}{a b:bg}{t:Bool}(h1:t=true->Ru ac c (.code a::s) L H)(h2:t=false->Ru ac c (.code b::s) L H)(d:aT L x=.bool t:=by exact cw):Ru ac c (.code (.cond x a b)::s) L H:=by cases t with|true=>exact Ru.rp (h1 rfl) d|false=>exact Ru.nU (h2 rfl) d
theorem Ru.cond{x:aK}{a b:bg}{p:Prop} [Decidable p](h1:p->Ru ac c (.code a::s) L H)(h2:¬p->Ru ac c (.code b::s) L H)(d:aT L x=.bool (decide p):=by exact cw):Ru ac c (.code (.cond x a b)::s) L H:=Ru.eh (λh=>h1 (of_decide_eq_true h)) (λh=>h2 (of_decide_eq_false h)) d
theorem Ru.exit{id:Nat}(h:RJ ac c (.exit id) s L H):Ru ac c (.code (.exit id)::s) L H:=λaa a=>⟨1,Xc.exit (h aa a)⟩
theorem Ru.ret(h:RJ ac c .ret s L H):Ru ac c (.code .ret::s) L H:=λaa a=>⟨1,Xc.ret (h aa a)⟩
theorem Ru.be{id:Nat}(h:Ru ac c s L H):Ru ac c (.be id::s) L H:=h
theorem RJ.code{a:bg}{i:Nat}(h:RJ ac c (.exit i) s L H):RJ ac c (.exit i) (.code a::s) L H:=h
theorem RJ.tg{i:Nat}(h:Ru ac c s L H):RJ ac c (.exit i) (.be i::s) L H:=λaa a=>by simp only[iD,afM,bc];exact h aa a
theorem RJ.Rz{i id:Nat}(hi:aeF i id=false)(h:RJ ac c (.exit i) s L H):RJ ac c (.exit i) (.be id::s) L H:=λaa a=>by simp only[iD,hi,abu,bA];exact h aa a
theorem RJ.RA{a:bg}(h:RJ ac c .ret s L H):RJ ac c .ret (.code a::s) L H:=h
theorem RJ.RB{id:Nat}(h:RJ ac c .ret s L H):RJ ac c .ret (.be id::s) L H:=h
theorem RJ.rD:∀{s:List SI},RJ ac c .ret [] L H->RJ ac c .ret s L H|[],h=>h|.code _::_,h=>RJ.RA (RJ.rD h)|.be _::_,h=>RJ.RB (RJ.rD h)
def yi(i:Nat):List SI->Option (List SI)
 |[]=>none
 |.code _::s=>yi i s
 |.be id::s=>if aeF i id then some s else yi i s
theorem RJ.DW{i:Nat}:∀{s t:List SI},yi i s=some t->Ru ac c t L H->RJ ac c (.exit i) s L H
 |[],_,h,_=>by cases h
 |.code _::s,t,h,k=>RJ.code (RJ.DW h k)
 |.be id::s,t,h,k=>by
  simp only[yi]at h;split at h;·rename_i e;rw[<-aey e];injection h with h;subst h;exact RJ.tg k
  rename_i e;exact RJ.Rz (by simpa only[Bool.not_eq_true]using e) (RJ.DW h k)
theorem Ru.exitTo{i:Nat}{t:List SI}(k:Ru ac c t L H)(h:yi i s=some t:=by rfl):Ru ac c (.code (.exit i)::s) L H:=Ru.exit (RJ.DW h k)
theorem RO.nil(h:Ru ac c s L H):RO ac c [] s L H:=λaa a=>⟨1,Xo.nil (h aa a)⟩
theorem RO.op{d:Option af}{op:bC}{l:List bu}{v:AV}{H':ai}(he:∀aa,Le L aa->aE op aa H=some (v,H'))(h:RO ac c l s (bj L d v) H'):RO ac c (⟨d,op,none,[],[]⟩::l) s L H:=λaa a=>by obtain⟨n,b⟩:=h _ (a.set d v);exact⟨n+1,Xo.op (he aa a) b⟩
theorem RO.call{d:Option af}{f:aK}{args:List aK}{l:List bu}{fv:AV}{e:List AV}(h:YF ac fv e H λv b=>RO ac c l s (bj L d v) b)(o:aT L f=fv:=by exact cw)(i:fv.bq=true:=by first|rfl|assumption)(p:args.map (aT L)=e:=by rfl)(j:e.all AV.bq=true:=by first|rfl|assumption):RO ac c (⟨d,.call f args,none,[],[]⟩::l) s L H:=λaa a=>by
 obtain⟨n,q⟩:=h;have k:args.map (gv aa)=e:=by subst p;refine afK λx r=>?_;exact a.gv rfl (afv.1 j _ (aeX r))
 obtain⟨m,g⟩:=(vP ac n).call (K:=λm v b=>Xo ac m l ⟨aO aa d v,c.M,c.R⟩ b (iD ac c.K s .none)) (λm u v H g h=>h.mono g λ_ _ h=>h) ((mono ac n).call (aeq _) (λv b t=>t _ (a.set d v)) q);refine⟨max n m+1,Xo.call ?_⟩;rw[a.gv o i,k];exact(show Xf ac n fv e H _ from g).mono (Nat.le_max_left ..) λv b h=>(show Xo ac m l _ b _ from h).mono (Nat.le_max_right ..) λ_ _ h=>h
def l9(a:List fM)(K:KT)(j:bU)(fr:Fr)(H:ai):Prop:=
 match j with
 |.exit _=>False
 |_=>match gV H fr.bz with
  |some H=>match ee fr.aa H a with
   |some l=>K (fG l) H
   |none=>False
  |none=>False
abbrev rE(a:List fM)(K:KT):Cx:=⟨l9 a K,[],none⟩
theorem IW:∀(l:List AV)(p q:af)(t:am AV),(iL l p t).get .agx q=if p.az<=q.az/\q.az<p.az+l.length then l.getD (q.az - p.az) .agx else t.get .agx q
 |[],p,q,t=>by simp only[iL,List.length_nil];rw[ap ab]
 |v::l,p,q,t=>by
  simp only[iL];rw[IW l p.succ q (t.set .agx p v),af.fH,am.aJ];simp only[aeJ];by_cases h1:p.az+1<=q.az/\q.az<p.az+1+l.length;·rw[aH h1,aH ab];rw[show q.az - p.az=(q.az - (p.az+1))+1 by omega];simp
  rw[ap h1];by_cases h2:q=p;·subst h2;rw[aH rfl,aH ab];simp
  rw[ap h2,ap];intro h3;exact h2 (af.qW ab)
def rF:List AV->Nat->Kn
 |[],_=>[]
 |v::l,k=>(af.cq k,v)::rF l (k+1)
theorem Le.rF:∀(l:List AV)(k:Nat)(aa:am AV),(∀i(h:i<l.length),aa.get .agx (af.cq (k+i))=l[i])->Le (rF l k) aa|[],_,_,_=>λp v h=>.inl h.symm|w::l,k,aa,h=>λp v a=>by simp only[Go.ak.rF,lk]at a;cases hb:af.beq (af.cq k) p with|true=>rw[hb]at a;rw[<-af.fo.1 hb,<-a];exact .inr (h 0 aC)|false=>rw[hb]at a;exact Le.rF l (k+1) aa (λi hi=>by have:=h (i+1) (by simpa using hi);rw[show k+1+i=k+(i+1)by omega];simpa using this) p v a
theorem Le.args(l:List AV):Le (Go.ak.rF l 0) (iL l .xH .aF):=Le.rF l 0 _ λi hi=>by rw[IW,af.jD,aeL,aH (by simp only[af.az];omega)];simp only[af.az,Nat.add_sub_cancel,aeD,hi,getElem?_pos,afc]
theorem YF.code{f b:Nat}{d:List fM}{body:bg}{a as_ cs:List AV}{K:KT}(e:ac f=.code b d body)(hl:(a++as_++cs).length<=b)(h:Ru ac (rE d K) [.code body] (rF (a++as_++cs) 0) H):YF ac (.func f a cs) as_ H K:=by obtain⟨n,g⟩:=h _ (Le.args (a++as_++cs));refine⟨n+1,?_⟩;simp only[Xf,dT,e];rw[aH (aff hl)];refine Xc.mono (aeq _) (λj fr H hj=>?_) g;cases j with|exit i=>exact hj|none=>exact hj|ret=>exact hj
theorem YF.fV{f:Nat}{g:List AV->ai->Option (AV×ai)}{a as_ cs:List AV}{v:AV}{H':ai}{K:KT}(b:ac f=.fV g)(hg:g (a++as_++cs) H=some (v,H'))(h:K v H'):YF ac (.func f a cs) as_ H K:=by refine⟨1,?_⟩;simp only[Xf,dT,b,hg];exact h
def th(L:Kn):List fM->List AV->Prop
 |[],[]=>True
 |.tmp p::a,v::b=>lk L p=v/\v.bq=true/\th L a b
 |_,_=>False
theorem th.tk{aa:am AV}(a:Le L aa):∀{b:List fM}{d:List AV},th L b d->ee aa H b=some d|[],[],_=>rfl|.tmp p::b,v::d,h=>by simp only[ee,th.tk a h.2.2,aeT,a.get h.1 h.2.1]|[],_::_,h=>h.elim|.tmp _::_,[],h=>h.elim|.cell .. ::_,[],h=>h.elim|.cell .. ::_,_::_,h=>h.elim
theorem RJ.aA{j:bU}{b:List fM}{K:KT}{vs:List AV}(hj:j=.none\/j=.ret)(d:th L b vs)(h:K (fG vs) H):RJ ac (rE b K) j [] L H:=λaa a=>by have:=d.tk (H:=H) a;rcases hj with rfl|rfl<;>simp only[iD,l9,gV,this]<;>exact h
theorem Ru.aA{a:List fM}{K:KT}{vs:List AV}(b:th L a vs)(h:K (fG vs) H):Ru ac (rE a K) [] L H:=RJ.aA (.inl rfl) b h
theorem Ru.mI{a:List fM}{K:KT}{vs:List AV}{s:List SI}(b:th L a vs)(h:K (fG vs) H):Ru ac (rE a K) (.code .ret::s) L H:=Ru.ret (RJ.rD (RJ.aA (.inr rfl) b h))
theorem Ru.aP{p:af}{K:KT}{v:AV}{s:List SI}(h:K v H)(a:lk L p=v:=by exact cw)(hd:v.bq=true:=by first|rfl|assumption):Ru ac (rE [.tmp p] K) (.code .ret::s) L H:=Ru.mI (vs:=[v]) ⟨a,hd,trivial⟩ h
theorem Ru.i4{p q:af}{K:KT}{v w:AV}{s:List SI}(h:K (.tuple [v,w]) H)(d:lk L p=v:=by exact cw)(hd:v.bq=true:=by first|rfl|assumption)(a:lk L q=w:=by exact cw)(b:w.bq=true:=by first|rfl|assumption):Ru ac (rE [.tmp p,.tmp q] K) (.code .ret::s) L H:=Ru.mI (vs:=[v,w]) ⟨d,hd,a,b,trivial⟩ h
end
end Go.ak
namespace Go.ak.R
structure Kp(Q:Prop):Prop where
 q:Q
theorem DX{P Q:Prop}(k:Q)(h:Kp Q->P:=by intro k;(first|refine RO.bw ?_|refine RO.kn ?_|refine RO.RC ?_|refine RO.lss ?_|refine RO.nil ?_|refine Ru.skip ?_|refine Ru.be ?_|refine RO.RD ?_|refine RO.neq ?_|refine RO.RE ?_|refine RO.eql ?_|refine RO.RF ?_|refine RO.gtr ?_|refine RO.RG ?_|refine RO.geq ?_|refine RO.RH ?_|refine RO.leq ?_|refine RO.RI ?_|refine RO.bk ?_|refine RO.fL ?_|refine RO.extract ?_|refine RO.un ?_|refine RO.part ?_|refine RO.jx ?_|refine RO.build ?_|refine RO.mu ?_|refine RO.sA ?_|refine Ru.rp ?_|refine Ru.nU ?_|refine RO.yj ?_|refine RO.IX ?_);exact k.1):P:=h ⟨k⟩
theorem IY{P Q:Prop}(k:Q)(h:Kp Q->P:=by intro k;(first|refine DX ?_|refine RO.IZ ?_|refine RO.dO ?_|refine RO.sC ?_|refine RO.DY ?_|refine RO.DZ ?_|refine RO.gR U 0 ?_|refine RO.gR U 1 ?_|refine RO.gR U 2 ?_|refine RO.gR U 3 ?_|refine RO.gR U 4 ?_|refine RO.bk ?_ (hc:=hat _ _ rfl)|refine RO.fL ?_ (hc:=hrd)|refine RO.km ?_|refine RO.nj ?_|refine RO.nilCheck ?_|refine RO.Ay ?_|refine RO.I0 ?_);exact k.1):P:=h ⟨k⟩
theorem lX{P Q:Prop}(k:Q)(h:Kp Q->P:=by intro k;(first|refine Ru.region ?_|refine Ru.seq ?_|refine Ru.block ?_|refine IY ?_);exact k.1):P:=h ⟨k⟩
theorem au{P Q:Prop}(k:Q)(h:Kp Q->P:=by intro k;(repeat(first|refine Ru.region ?_|refine Ru.seq ?_|refine Ru.block ?_|refine DX ?_));exact k.1):P:=h ⟨k⟩
theorem aS{P Q:Prop}(k:Q)(h:Kp Q->P:=by intro k;(repeat(first|refine Ru.region ?_|refine Ru.seq ?_|refine Ru.block ?_|refine DX ?_|refine RO.IZ ?_|refine RO.dO ?_|refine RO.sC ?_|refine RO.DY ?_|refine RO.DZ ?_|refine RO.gR U 0 ?_|refine RO.gR U 1 ?_|refine RO.gR U 2 ?_|refine RO.gR U 3 ?_|refine RO.gR U 4 ?_|refine RO.bk ?_ (hc:=hat _ _ rfl)|refine RO.fL ?_ (hc:=hrd)|refine RO.km ?_|refine RO.nj ?_));exact k.1):P:=h ⟨k⟩
theorem ah{P Q:Prop}(k:Q)(h:Kp Q->P:=by intro k;(repeat refine lX ?_);exact k.1):P:=h ⟨k⟩
theorem fP{P Q:Prop}(k:Q)(h:Kp Q->P:=by intro k;(repeat refine IY ?_);exact k.1):P:=h ⟨k⟩
theorem eJ{P Q:Prop}(k:Q)(h:Kp Q->P:=by intro k;(repeat(first|refine RO.RK ?_|refine RO.RL ?_|refine lX ?_));exact k.1):P:=h ⟨k⟩
end Go.ak.R
namespace Go.ak
section
variable{ac:Nat->aX}{c:Cx}{s:List SI}{L:Kn}{H:ai}{d:Option af}{l:List bu}
theorem RM{k:Nat}{n:Int}(h:(ck k).wrap n=n):fA k n=n:=by
 unfold fA;split
 .split;·rfl
  exact h
 .split;·rfl
  exact h
 .split;·rfl
  exact h
 exact h
theorem ma{n:Int}(h1: -9223372036854775808<=n)(h2:n<9223372036854775808):fA 3 n=n:=by cases n with|ofNat m=>rw[aev]at h2;have:ae0 m 9223372036854775808=true:=agu afs ab;simp only[fA,this,bc]|negSucc m=>have:ae0 m 9223372036854775808=true:=agu afs ab;simp only[fA,this,bc]
theorem RO.bw{x:aK}{v:AV}(h:RO ac c l s (bj L d v) H)(b:aT L x=v:=by exact cw)(e:v.bq=true:=by first|rfl|assumption):RO ac c (⟨d,.bw x,none,[],[]⟩::l) s L H:=RO.op (λaa a=>by simp only[aE,a.gv b e]) h
theorem RO.arith{op:BinOp}{k:Nat}{x y:aK}{a b:Int}{v:AV}(h:RO ac c l s (bj L d v) H)(f:aT L x=.int k a:=by exact cw)(g:aT L y=.int k b:=by exact cw)(hv:eT op k a b=some v:=by exact cw):RO ac c (⟨d,.arith op k x y,none,[],[]⟩::l) s L H:=RO.op (λaa e=>by simp only[aE,e.gv f rfl,e.gv g rfl,uu,afM,agq,bc,hv,aeT]) h
theorem RO.add{x y:aK}{a b:Int}(h:RO ac c l s (bj L d (.int 3 (a+b))) H)(e:aT L x=.int 3 a:=by exact cw)(f:aT L y=.int 3 b:=by exact cw)(h1: -9223372036854775808<=a+b:=by omega)(h2:a+b<9223372036854775808:=by omega):RO ac c (⟨d,.arith .add 3 x y,none,[],[]⟩::l) s L H:=RO.arith h e f (by simp only[eT,ma h1 h2])
theorem RO.RI{x:aK}{a b:Nat}{y:aK}(h:RO ac c l s (bj L d (.int 3 (.ofNat (a+b)))) H)(e:aT L x=.int 3 (.ofNat a):=by exact cw)(f:aT L y=.int 3 (.ofNat b):=by exact cw)(h2:a+b<9223372036854775808:=by omega):RO ac c (⟨d,.arith .add 3 x y,none,[],[]⟩::l) s L H:=RO.add (a:=.ofNat a) (b:=.ofNat b) h e f (by simp;omega) (by simp;omega)
theorem RO.sub{x y:aK}{a b:Int}(h:RO ac c l s (bj L d (.int 3 (a - b))) H)(e:aT L x=.int 3 a:=by exact cw)(f:aT L y=.int 3 b:=by exact cw)(h1: -9223372036854775808<=a - b:=by omega)(h2:a - b<9223372036854775808:=by omega):RO ac c (⟨d,.arith .sub 3 x y,none,[],[]⟩::l) s L H:=RO.arith h e f (by simp only[eT,ma h1 h2])
theorem RO.eql{k:Nat}{x y:aK}{a b:Int}(h:RO ac c l s (bj L d (.bool (decide (a=b)))) H)(e:aT L x=.int k a:=by exact cw)(f:aT L y=.int k b:=by exact cw):RO ac c (⟨d,.arith .eql k x y,none,[],[]⟩::l) s L H:=RO.arith h e f (by simp only[eT,eU];congr 2)
theorem RO.neq{k:Nat}{x y:aK}{a b:Int}(h:RO ac c l s (bj L d (.bool (decide (a≠b)))) H)(e:aT L x=.int k a:=by exact cw)(f:aT L y=.int k b:=by exact cw):RO ac c (⟨d,.arith .neq k x y,none,[],[]⟩::l) s L H:=RO.arith h e f (by simp only[eT,eU];congr 2;rw[afy];simp)
theorem RO.lss{k:Nat}{x y:aK}{a b:Int}(h:RO ac c l s (bj L d (.bool (decide (a<b)))) H)(e:aT L x=.int k a:=by exact cw)(f:aT L y=.int k b:=by exact cw):RO ac c (⟨d,.arith .lss k x y,none,[],[]⟩::l) s L H:=RO.arith h e f (by simp only[eT,lz])
theorem RO.leq{k:Nat}{x y:aK}{a b:Int}(h:RO ac c l s (bj L d (.bool (decide (a<=b)))) H)(e:aT L x=.int k a:=by exact cw)(f:aT L y=.int k b:=by exact cw):RO ac c (⟨d,.arith .leq k x y,none,[],[]⟩::l) s L H:=RO.arith h e f (by simp only[eT,lz];congr 2;rw[afy];simp)
theorem RO.gtr{k:Nat}{x y:aK}{a b:Int}(h:RO ac c l s (bj L d (.bool (decide (b<a)))) H)(e:aT L x=.int k a:=by exact cw)(f:aT L y=.int k b:=by exact cw):RO ac c (⟨d,.arith .gtr k x y,none,[],[]⟩::l) s L H:=RO.arith h e f (by simp only[eT,lz])
theorem RO.geq{k:Nat}{x y:aK}{a b:Int}(h:RO ac c l s (bj L d (.bool (decide (b<=a)))) H)(e:aT L x=.int k a:=by exact cw)(f:aT L y=.int k b:=by exact cw):RO ac c (⟨d,.arith .geq k x y,none,[],[]⟩::l) s L H:=RO.arith h e f (by simp only[eT,lz];congr 2;rw[afy];simp)
theorem RO.RC{k:Nat}{x y:aK}{a b:Nat}(h:RO ac c l s (bj L d (.bool (decide (a<b)))) H)(e:aT L x=.int k (.ofNat a):=by exact cw)(f:aT L y=.int k (.ofNat b):=by exact cw):RO ac c (⟨d,.arith .lss k x y,none,[],[]⟩::l) s L H:=RO.lss (a:=.ofNat a) (b:=.ofNat b) (by simpa using h) e f
theorem RO.RH{k:Nat}{x y:aK}{a b:Nat}(h:RO ac c l s (bj L d (.bool (decide (a<=b)))) H)(e:aT L x=.int k (.ofNat a):=by exact cw)(f:aT L y=.int k (.ofNat b):=by exact cw):RO ac c (⟨d,.arith .leq k x y,none,[],[]⟩::l) s L H:=RO.leq (a:=.ofNat a) (b:=.ofNat b) (by simpa using h) e f
theorem RO.RF{k:Nat}{x y:aK}{a b:Nat}(h:RO ac c l s (bj L d (.bool (decide (b<a)))) H)(e:aT L x=.int k (.ofNat a):=by exact cw)(f:aT L y=.int k (.ofNat b):=by exact cw):RO ac c (⟨d,.arith .gtr k x y,none,[],[]⟩::l) s L H:=RO.gtr (a:=.ofNat a) (b:=.ofNat b) (by simpa using h) e f
theorem RO.RG{k:Nat}{x y:aK}{a b:Nat}(h:RO ac c l s (bj L d (.bool (decide (b<=a)))) H)(e:aT L x=.int k (.ofNat a):=by exact cw)(f:aT L y=.int k (.ofNat b):=by exact cw):RO ac c (⟨d,.arith .geq k x y,none,[],[]⟩::l) s L H:=RO.geq (a:=.ofNat a) (b:=.ofNat b) (by simpa using h) e f
theorem RO.RE{k:Nat}{x y:aK}{a b:Nat}(h:RO ac c l s (bj L d (.bool (decide (a=b)))) H)(e:aT L x=.int k (.ofNat a):=by exact cw)(f:aT L y=.int k (.ofNat b):=by exact cw):RO ac c (⟨d,.arith .eql k x y,none,[],[]⟩::l) s L H:=RO.eql (a:=.ofNat a) (b:=.ofNat b) (by rw[show decide (afq a=afq b)=decide (a=b)from decide_eq_decide.2 ⟨λh=>Int.ofNat.inj h,λh=>congrArg _ h⟩];exact h) e f
theorem RO.RD{k:Nat}{x y:aK}{a b:Nat}(h:RO ac c l s (bj L d (.bool (decide (a≠b)))) H)(f:aT L x=.int k (.ofNat a):=by exact cw)(g:aT L y=.int k (.ofNat b):=by exact cw):RO ac c (⟨d,.arith .neq k x y,none,[],[]⟩::l) s L H:=RO.neq (a:=.ofNat a) (b:=.ofNat b) (by rw[show decide (afq a≠afq b)=decide (a≠b)from decide_eq_decide.2 ⟨λh e=>h (congrArg _ e),λh e=>h (Int.ofNat.inj e)⟩];exact h) f g
theorem RO.un{op:UnOp}{x:aK}{w v:AV}(h:RO ac c l s (bj L d v) H)(b:aT L x=w:=by exact cw)(e:w.bq=true:=by first|rfl|assumption)(f:ux op w=some v:=by exact cw):RO ac c (⟨d,.unary op x,none,[],[]⟩::l) s L H:=RO.op (λaa a=>by simp only[aE,a.gv b e,f,aeT]) h
theorem RO.eq{neg:Bool}{e:cY}{x y:aK}{a b:AV}{t:Bool}(h:RO ac c l s (bj L d (.bool (t !=neg))) H)(g:aT L x=a:=by exact cw)(i:a.bq=true:=by first|rfl|assumption)(j:aT L y=b:=by exact cw)(hb:b.bq=true:=by first|rfl|assumption)(ht:cQ 64 e a b=some t:=by first|assumption|rfl):RO ac c (⟨d,.eq neg e x y,none,[],[]⟩::l) s L H:=RO.op (λaa f=>by simp only[aE,f.gv g i,f.gv j hb,ht,aeT]) h
theorem RO.bk{x:aK}{i:af}{o:Nat}{v:AV}(h:RO ac c l s (bj L d v) H)(hx:aT L x=.aD i o:=by exact cw)(hc:bx H i o=some v:=by assumption):RO ac c (⟨d,.bk x,none,[],[]⟩::l) s L H:=RO.op (λaa a=>j8 (a.gv hx rfl) hc) h
theorem RO.fL{n:Nat}{x:aK}{i:af}{o:Nat}{vs:List AV}(h:RO ac c l s (bj L d (.agg vs)) H)(hx:aT L x=.aD i o:=by exact cw)(hc:du H i o n=some vs:=by assumption):RO ac c (⟨d,.fL n x,none,[],[]⟩::l) s L H:=RO.op (λaa a=>by simp only[aE,a.gv hx rfl,gz,hc,bc,aeT]) h
theorem RO.store{n:Nat}{a x:aK}{i:af}{o:Nat}{v:AV}{e:ai}(f:gw H i o v.cells=some e)(h:RO ac c l s (bj L d .agx) e)(g:aT L a=.aD i o:=by exact cw)(j:aT L x=v:=by exact cw)(k:v.bq=true:=by first|rfl|assumption)(m:v.cells.length=n:=by rfl):RO ac c (⟨d,.store n a x,none,[],[]⟩::l) s L H:=RO.op (λaa b=>by simp only[aE,b.gv g rfl,b.gv j k,m,bc,f]) h
theorem RO.dO{size:Nat}{x y:aK}{i:af}{o n b j k:Nat}{e:Bool}(h:RO ac c l s (bj L d (.aD i (o+j*size))) H)(f:aT L x=.slice i o n b e:=by exact cw)(g:aT L y=.int k (.ofNat j):=by exact cw)(hj:j<n:=by omega):RO ac c (⟨d,.dO size x y,none,[],[]⟩::l) s L H:=RO.op (λaa a=>by have:ae0 j n=true:=agu afs hj;simp only[aE,a.gv f rfl,a.gv g rfl,this,bc]) h
theorem RO.jx{off:Nat}{x:aK}{i:af}{o:Nat}(h:RO ac c l s (bj L d (.aD i (o+off))) H)(b:aT L x=.aD i o:=by exact cw):RO ac c (⟨d,.jx off x,none,[],[]⟩::l) s L H:=RO.op (λaa a=>by simp only[aE,a.gv b rfl]) h
theorem RO.part{agg:Bool}{off size:Nat}{x:aK}{b:List AV}{v:AV}(h:RO ac c l s (bj L d v) H)(e:aT L x=.agg b:=by exact cw)(f:nu agg b off size=some v:=by exact cw):RO ac c (⟨d,.part agg off size x,none,[],[]⟩::l) s L H:=RO.op (λaa a=>by simp only[aE,a.gv e rfl,f,aeT]) h
theorem RO.extract{x:aK}{i:Nat}{b:List AV}{v:AV}(h:RO ac c l s (bj L d v) H)(e:aT L x=.tuple b:=by exact cw)(f:kO b i=some v:=by exact cw):RO ac c (⟨d,.extract x i,none,[],[]⟩::l) s L H:=RO.op (λaa a=>by simp only[aE,a.gv e rfl,f,aeT]) h
def lenOf:AV->Option Nat
 |.slice _ _ n _ _=>some n
 |.aG=>some 0
 |_=>none
theorem RO.kn{x:aK}{v:AV}{n:Nat}(h:RO ac c l s (bj L d (.int 3 (.ofNat n))) H)(e:aT L x=v:=by exact cw)(a:lenOf v=some n:=by first|rfl|assumption):RO ac c (⟨d,.kn x,none,[],[]⟩::l) s L H:=RO.op (λaa b=>by
 have hd:v.bq=true:=by cases v<;>first|rfl|cases a
 simp only[aE,b.gv e hd];cases v<;>simp only[lenOf,aas,reduceCtorEq]at a<;>subst a<;>rfl) h
theorem RO.box{e:Nat}{x:aK}{v:AV}(h:RO ac c l s (bj L d (.aD H.next 0)) (H.new (.cells (bX v.cells) v.cells.length e true [] 0)))(b:aT L x=v:=by exact cw)(f:v.bq=true:=by first|rfl|assumption)(g:cE v.cells=true:=by rfl):RO ac c (⟨d,.box e x,none,[],[]⟩::l) s L H:=RO.op (λaa a=>by simp only[aE,a.gv b f,g,bc]) h
theorem RO.alloc{e:Nat}{a:List AV}(h:RO ac c l s (bj L d (.aD H.next 0)) (H.new (.cells (bX a) a.length e true [] 0))):RO ac c (⟨d,.alloc e a,none,[],[]⟩::l) s L H:=RO.op (λaa b=>by simp only[aE]) h
def mc(L:Kn)(l:List AV):List (Nat×Nat×aK)->Option (List AV)
 |[]=>some l
 |(off,size,x)::a=>
  let b:=(aT L x).cells
  if(aT L x).bq&&decide (b.length=size)then(match ny l off b with|some e=>mc L e a|none=>none)else none
theorem D0{aa:am AV}(a:Le L aa):∀{i:List (Nat×Nat×aK)}{f g:List AV},mc L f i=some g->kp aa f i=some g
 |[],f,g,h=>by simpa[mc,kp]using h
 |(off,size,x)::k,f,g,h=>by
  simp only[mc]at h;split at h
  .rename_i j;have b:=j;simp only[aew]at b;have e:=a.gv (x:=x) rfl b.1;simp only[kp];rw[e,aH j];split at h;·rename_i h2;rw[h2];exact D0 a h
   cases h
  cases h
theorem RO.build{b vs:List AV}{e:List (Nat×Nat×aK)}(h:RO ac c l s (bj L d (.agg vs)) H)(hl:mc L b e=some vs:=by exact cw):RO ac c (⟨d,.build b e,none,[],[]⟩::l) s L H:=RO.op (λaa a=>by simp only[aE,D0 a hl,aeT]) h
theorem RO.buildSlice{e n:Nat}{b vs:List AV}{f:List (Nat×Nat×aK)}(h:RO ac c l s (bj L d (.slice H.next 0 n n true)) (H.new (.cells (bX vs) vs.length e true [] 0)))(hl:mc L (ep b n) f=some vs:=by exact cw)(g:cE vs=true:=by rfl):RO ac c (⟨d,.buildSlice e n b f,none,[],[]⟩::l) s L H:=RO.op (λaa a=>by simp only[aE,D0 a hl,g,bc]) h
theorem RO.mu{f:Nat}{a b:List aK}{g j:List AV}(h:RO ac c l s (bj L d (.func f g j)) H)(k:a.map (aT L)=g:=by rfl)(i:g.all AV.bq=true:=by rfl)(hb:b.map (aT L)=j:=by rfl)(m:j.all AV.bq=true:=by rfl):RO ac c (⟨d,.mu f a b,none,[],[]⟩::l) s L H:=RO.op (λaa n=>by
 have e:∀{a:List aK}{g:List AV},a.map (aT L)=g->g.all AV.bq=true->a.map (gv aa)=g:=λ{a g}k i=>by subst k;exact afK λx o=>n.gv rfl (afv.1 i _ (aeX o))
 simp only[aE,e k i,e hb m]) h
theorem RO.je(h:RO ac c l s (bj L d (.map H.next)) (H.new (.map [] 0))):RO ac c (⟨d,.je,none,[],[]⟩::l) s L H:=RO.op (λaa a=>by simp only[aE]) h
theorem RO.ng{e bytes size:Nat}{b:List AV}{x y:aK}{n k:Nat}(h:RO ac c l s (bj L d (.slice H.next 0 n k true)) (H.new (.cells (bX (ep b k)) (k*size) e true [] 0)))(f:aT L x=.int 3 (.ofNat n):=by exact cw)(g:aT L y=.int 3 (.ofNat k):=by exact cw)(i:n<=k:=by omega)(hb:k*bytes<=70368744177664:=by omega)(j:k<=70368744177664:=by omega):RO ac c (⟨d,.ng e bytes size b x y,none,[],[]⟩::l) s L H:=RO.op (λaa a=>by
 have h1:(afx n k&&dG (k*bytes)&&dG k)=true:=by simp only[dG,aew];exact⟨⟨aff i,aff hb⟩,aff j⟩
 simp only[aE,a.gv f rfl,a.gv g rfl,h1,bc]) h
theorem RO.append{e bytes size:Nat}{j:List AV}{x y:aK}{b f:AV}{n:Nat}{i:List AV}{r:AV×ai}(k:fB H size f=some (n,i))(m:iK e bytes size H b n i=some r)(h:RO ac c l s (bj L d r.1) r.2)(o:aT L x=b:=by exact cw)(hs:b.bq=true:=by first|rfl|assumption)(p:aT L y=f:=by exact cw)(g:f.bq=true:=by first|rfl|assumption):RO ac c (⟨d,.append e bytes size j false x y,none,[],[]⟩::l) s L H:=RO.op (λaa a=>by simp only[aE,abu,bA,a.gv o hs,a.gv p g,k,m]) h
theorem RO.nilCheck{x:aK}{v:AV}(h:RO ac c l s (bj L d v) H)(e:aT L x=v:=by exact cw)(b:(match v with|.aD .. |.func .. |.yield _|.iface .. |.map _|.slice .. =>true|_=>false)=true:=by first|rfl|assumption):RO ac c (⟨d,.nilCheck x,none,[],[]⟩::l) s L H:=RO.op (λaa a=>by
 have hd:v.bq=true:=by cases v<;>first|rfl|cases b
 simp only[aE,a.gv e hd];cases v<;>first|rfl|cases b) h
theorem RO.nk{a:Bool}{f:List aK}{v r:AV}{b:List AV}(h:RO ac c l s (bj L d r) H)(j:f.map (aT L)=v::b:=by rfl)(hd:(v::b).all AV.bq=true:=by first|rfl|assumption)(hr:uy a v b=some r:=by exact cw):RO ac c (⟨d,.nk a f,none,[],[]⟩::l) s L H:=RO.op (λaa g=>by
 have e:f.map (gv aa)=v::b:=by rw[<-j];refine afK λx i=>g.gv rfl ?_;rw[<-j]at hd;exact afv.1 hd _ (aeX i)
 simp only[aE,e,hr,aeT]) h
def jm(L:Kn)(x:Option aK)(d y:Nat):Option Nat:=
 match x with
 |some x=>lS (aT L x) y
 |none=>some d
theorem vQ{aa:am AV}(a:Le L aa){x:Option aK}{d y n:Nat}(h:jm L x d y=some n):gM aa x d y=some n:=by cases x with|none=>exact h|some x=>simp only[jm]at h;simp only[gM];rw[a.gv (x:=x) rfl (by cases hg:aT L x<;>rw[hg]at h<;>first|rfl|cases h)];exact h
theorem RO.gp{e size:Nat}{x:aK}{lo hi g:Option aK}{i:af}{o n j:Nat}{ex:Bool}{a b m:Nat}(k:aT L x=.slice i o n j ex)(p:jm L g j j=some m)(hb:jm L hi n m=some b)(q:jm L lo 0 b=some a)(he:(ex||g.isSome||lo.isNone||oN H i e)=true)(h:RO ac c l s (bj L d (.slice i (if ex&&decide (m=a)then o else o+a*size) (b - a) (m - a) (ex||g.isSome))) H):RO ac c (⟨d,.gp e size x lo hi g,none,[],[]⟩::l) s L H:=RO.op (λaa f=>by simp only[aE,f.gv k rfl,vQ f p,vQ f hb,vQ f q,aep,afY,he,bc]) h
theorem RO.Az{e size:Nat}{x:aK}{lo hi g:Option aK}{a b m:Nat}(i:aT L x=.aG)(j:jm L g 0 0=some m)(hb:jm L hi 0 m=some b)(k:jm L lo 0 b=some a)(h:RO ac c l s (bj L d .aG) H):RO ac c (⟨d,.gp e size x lo hi g,none,[],[]⟩::l) s L H:=RO.op (λaa f=>by simp only[aE,f.gv i rfl,vQ f j,vQ f hb,vQ f k,aep,afY]) h
theorem RO.jM{k m:Nat}{x:aK}{a:Int}(h:RO ac c l s (bj L d (.int k (fA k a))) H)(e:aT L x=.int m a:=by exact cw):RO ac c (⟨d,.jM k x,none,[],[]⟩::l) s L H:=RO.op (λaa b=>by simp only[aE,b.gv e rfl]) h
theorem RO.copy{size:Nat}{x y:aK}{i:af}{o n j:Nat}{ex:Bool}{b:AV}{m:Nat}{f:List AV}{g:ai}(k:aT L x=.slice i o n j ex)(p:aT L y=b)(e:b.bq=true)(q:fB H size b=some (m,f))(r:min m n≠0)(t:gw H i o (f.take (min m n*size))=some g)(h:RO ac c l s (bj L d (.int 3 (.ofNat (min m n)))) g):RO ac c (⟨d,.copy size x y,none,[],[]⟩::l) s L H:=RO.op (λaa a=>by simp only[aE,a.gv k rfl,a.gv p e,q,ap r,t]) h
theorem RO.I1{size:Nat}{x y:aK}{xv b:AV}{m:Nat}{f:List AV}(g:aT L x=xv)(i:aT L y=b)(e:b.bq=true)(j:fB H size b=some (m,f))(k:∃n,lenOf xv=some n/\min m n=0)(h:RO ac c l s (bj L d (.int 3 (.ofNat 0))) H):RO ac c (⟨d,.copy size x y,none,[],[]⟩::l) s L H:=RO.op (λaa a=>by
 obtain⟨n,h1,h2⟩:=k;have hd:xv.bq=true:=by cases xv<;>first|rfl|cases h1
 simp only[aE,a.gv g hd,a.gv i e,j];cases xv<;>simp only[lenOf,aas,reduceCtorEq]at h1;·subst h1;simp only[h2,bc]
 rfl) h
theorem RO.km{op:BinOp}{x y:aK}{a b:AV}{v:AV}(h:RO ac c l s (bj L d v) H)(f:aT L x=a:=by exact cw)(g:a.bq=true:=by first|rfl|assumption)(i:aT L y=b:=by exact cw)(hb:b.bq=true:=by first|rfl|assumption)(j:uw op a b=some v:=by exact cw):RO ac c (⟨d,.km op x y,none,[],[]⟩::l) s L H:=RO.op (λaa e=>by simp only[aE,e.gv f g,e.gv i hb,j,aeT]) h
theorem RO.nj{x:aK}{t:List Nat}(h:RO ac c l s (bj L d (.int 3 (.ofNat t.length))) H)(b:aT L x=.str t:=by exact cw):RO ac c (⟨d,.nj x,none,[],[]⟩::l) s L H:=RO.op (λaa a=>by simp only[aE,a.gv b rfl]) h
theorem RO.IX{op:bC}{g:af}{w b:Bool}{hd:List af}{re:List fU}(h:RO ac c l s (bj L d .agx) H)(hg:aT L (.t g)=.bool b:=by exact cw)(hb:b≠w:=by decide):RO ac c (⟨d,op,some (g,w),hd,re⟩::l) s L H:=λaa a=>by
 obtain⟨n,i⟩:=h _ (a.set d .agx);refine⟨n+1,?_⟩;have e:aa.get .agx g=.bool b:=a.get hg rfl;have f:(b==w)=false:=by simpa using hb
 simp only[Xo,Go.ak.aq,dc,iM,e,f,abu,bA,AV.bq,bc];exact i
theorem RO.yj{op:bC}{g:af}{w:Bool}{hd:List af}{re:List fU}(h:RO ac c (⟨d,op,none,hd,re⟩::l) s L H)(hg:aT L (.t g)=.bool w:=by exact cw):RO ac c (⟨d,op,some (g,w),hd,re⟩::l) s L H:=λaa a=>by obtain⟨n,b⟩:=h aa a;refine⟨n,?_⟩;have e:aa.get .agx g=.bool w:=a.get hg rfl;cases n with|zero=>simp only[Xo,Go.ak.aq]at b|succ n=>simp only[Xo,Go.ak.aq,dc,e,beq_self_eq_true,bc]at b⊢;exact b
end
section
theorem tm{c:am AV}{n:Nat}:∀{l:List AV}{o:Nat},o+l.length<=n->(∀i(h:i<l.length),c.bN .agx (o+i)=l[i])->eX c n o l.length=some l
 |[],o,_,_=>by simp[eX]
 |z::l,o,h,hg=>by
  simp only[aeJ,eX];have h0:c.bN .agx o=z:=hg 0 aC;have a:o<n:=by simp at h;omega
  have b:=tm (c:=c) (n:=n) (l:=l) (o:=o+1) (by simp at h;omega) (λi hi=>by have:=hg (i+1) (by simpa using hi);rw[show o+(i+1)=o+1+i by omega]at this;simpa using this);rw[aH a,b,h0]
def Sl(H:ai)(size:Nat)(vs:List AV)(n:Nat)(sv:AV):Prop:=
 (sv=.aG/\n=0/\vs=[])\/∃i o cap ex c m e rw aM fz,sv=.slice i o n cap ex/\H.get i=.cells c m e rw aM fz/\o+n*size<=m/\vs.length=n*size/\(∀j(h:j<vs.length),c.bN .agx (o+j)=vs[j])/\i.az<H.next.az/\n<=cap
variable{H H':ai}{size n e bytes:Nat}{vs ws:List AV}{sv:AV}
theorem Sl.length(h:Sl H size vs n sv):vs.length=n*size:=by
 rcases h with⟨_,rfl,rfl⟩|⟨_,_,_,_,_,_,_,_,_,_,_,_,_,h,_⟩;·simp
 exact h
theorem Sl.bq(h:Sl H size vs n sv):sv.bq=true:=by rcases h with⟨rfl,_⟩|⟨_,_,_,_,_,_,_,_,_,_,rfl,_⟩<;>rfl
theorem Sl.db(h:Sl H size vs n sv):sv.db=true:=by rcases h with⟨rfl,_⟩|⟨_,_,_,_,_,_,_,_,_,_,rfl,_⟩<;>rfl
theorem Sl.cells(h:Sl H size vs n sv):sv.cells=[sv]:=by rcases h with⟨rfl,_⟩|⟨_,_,_,_,_,_,_,_,_,_,rfl,_⟩<;>rfl
theorem Sl.len(h:Sl H size vs n sv):lenOf sv=some n:=by rcases h with⟨rfl,rfl,_⟩|⟨_,_,_,_,_,_,_,_,_,_,rfl,_⟩<;>rfl
theorem Sl.fB(h:Sl H size vs n sv):fB H size sv=some (n,vs):=by
 rcases h with⟨rfl,rfl,rfl⟩|⟨i,o,cap,ex,c,m,e,b,aM,fz,rfl,hg,d,hl,a,_⟩;·rfl
 have:=tm (c:=c) (n:=m) (l:=vs) (o:=o) ab a;rw[hl]at this;simp only[Go.ak.fB,du,hg,this]
theorem Sl.frame(h:Sl H size vs n sv)(k:H.next.az<=H'.next.az)(d:∀j:af,j.az<H.next.az->H'.get j=H.get j):Sl H' size vs n sv:=by
 rcases h with h|⟨i,o,cap,ex,c,m,e,b,aM,fz,h1,hg,f,hl,g,hi,a⟩;·exact .inl h
 exact .inr ⟨i,o,cap,ex,c,m,e,b,aM,fz,h1,by rw[d i hi];exact hg,f,hl,g,ab,a⟩
theorem Sl.at(h:Sl H size vs n sv)(l:0<n):∃i o cap ex,sv=.slice i o n cap ex/\n<=cap/\i.az<H.next.az/\(∀j(hj:j<vs.length),bx H i (o+j)=some vs[j])/\∀j k,(j+k)<=vs.length->du H i (o+j) k=some ((vs.drop j).take k):=by
 rcases h with⟨_,rfl,_⟩|⟨i,o,cap,ex,c,m,e,f,aM,fz,h1,hg,p,hl,b,hi,a⟩;·omega
 refine⟨i,o,cap,ex,h1,a,hi,λj hj=>?_,λj k g=>?_⟩;·have hb:ae0 (o+j) m=true:=agu afs ab;simp only[bx,hg,hb,bc,b j hj]
 have:=tm (c:=c) (n:=m) (l:=(vs.drop j).take k) (o:=o+j) (by simp;omega) (λx d=>by simp only[aeP,afF]at d;rw[afU,b (j+x) ab];simp);simp only[aeP,afF]at this;rw[af7 ab]at this;simp only[du,hg,this]
def cI(H:ai)(fp:List af)(e size:Nat)(vs:List AV)(n:Nat)(full:Bool)(sv:AV):Prop:=
 (fp=[]/\vs=[]/\n=0/\sv=.aG)\/
 ∃i c aM cap ex,fp=i::aM/\sv=.slice i 0 n cap ex/\H.get i=.cells c (cap*size) e true aM 0/\n<=cap/\vs.length=n*size/\(∀j(h:j<vs.length),c.bN .agx j=vs[j])/\(∀p∈fp,p.az<H.next.az)/\(full=true->ex=true\/n=cap)
variable{fp:List af}{full:Bool}
theorem cI.sl(h:cI H fp e size vs n full sv):Sl H size vs n sv:=by
 rcases h with⟨_,rfl,rfl,rfl⟩|⟨i,c,aM,cap,ex,rfl,rfl,hg,a,hl,b,d,_⟩;·exact .inl ⟨rfl,rfl,rfl⟩
 refine .inr ⟨i,0,cap,ex,c,_,e,true,aM,0,rfl,hg,?_,hl,λj hj=>by rw[aeL];exact b j hj,d i (acm ..),a⟩;rw[aeL];exact aeV _ a
theorem cI.frame(h:cI H fp e size vs n full sv)(f:H.next.az<=H'.next.az)(g:∀j∈fp,H'.get j=H.get j):cI H' fp e size vs n full sv:=by
 rcases h with h|⟨i,c,aM,cap,ex,rfl,rfl,hg,b,hl,k,l,a⟩;·exact .inl h
 exact .inr ⟨i,c,aM,cap,ex,rfl,rfl,by rw[g i (acm ..)];exact hg,b,hl,k,λp d=>ae2 (l p d) f,a⟩
structure aZ(H H':ai):Prop where
 nx:H.next.az<=H'.next.az
 cM:∀j:af,j.az<H.next.az->H'.get j=H.get j
theorem aZ.refl(H:ai):aZ H H:=⟨aeq _,λ_ _=>rfl⟩
theorem aZ.trans{A B C:ai}(h:aZ A B)(k:aZ B C):aZ A C:=⟨af2 h.nx k.nx,λj hj=>(k.cM j (ae2 hj h.nx)).trans (h.cM j hj)⟩
theorem ai.lD(H:ai)(o:bO):(H.new o).next.az=H.next.az+1:=af.fH _
theorem aZ.new(H:ai)(o:bO):aZ H (H.new o):=⟨by rw[ai.lD];omega,λj hj=>by rw[ai.cZ,ap (dg ab)]⟩
theorem aZ.sl(h:aZ H H')(k:Sl H size vs n sv):Sl H' size vs n sv:=k.frame h.nx h.cM
theorem aZ.bx(h:aZ H H'){i:af}(hi:i.az<H.next.az)(o:Nat):bx H' i o=Go.ak.bx H i o:=vL (h.cM i hi) o
theorem cI.below(h:cI H fp e size vs n full sv):∀j∈fp,j.az<H.next.az:=by
 rcases h with⟨rfl,_⟩|⟨_,_,_,_,_,_,_,_,_,_,_,a,_⟩;·intro j hj;cases hj
 exact a
theorem AA:∀{l:List AV},cE l=true↔∀v∈l,v.db=true|[]=>by simp[cE]|a::l=>by simp[cE,AA (l:=l)]
theorem rG{n:Nat}(h:n<=70368744177664):dG n=true:=aff h
theorem vR{l:List AV}{j:Nat}(h:j<l.length):(bX l).bN .agx j=l[j]:=by rw[lW l j h];simp[aeD,h]
theorem cI.new{vs:List AV}(b:vs.length=n*size)(ex full:Bool):cI (H.new (.cells (bX vs) (n*size) e true [] 0)) [H.next] e size vs n full (.slice H.next 0 n n ex):=.inr ⟨H.next,bX vs,[],n,ex,rfl,rfl,by rw[ai.cZ,aH rfl],aeq _,b,λj hj=>vR hj,λp a=>by rw[aaN]at a;subst a;rw[ai.lD];omega,λ_=>.inr rfl⟩
theorem cI.append(h:cI H fp e size vs n true sv){k:Nat}(r:ws.length=k*size)(h1:cE ws=true)(hb:(n+k)*bytes<=70368744177664)(hs:n+k<=70368744177664):∃t H' u,iK e bytes size H sv k ws=some (t,H')/\cI H' u e size (vs++ws) (n+k) true t/\H.next.az<=H'.next.az/\(∀j∈u,j∈fp\/(H.next.az<=j.az/\j.az<H'.next.az))/\∀j:af,j∉fp->j.az<H.next.az->H'.get j=H.get j:=by
 rcases h with⟨rfl,rfl,rfl,rfl⟩|⟨i,c,aM,cap,ex,rfl,rfl,hg,g,hl,x,w,a⟩
 .by_cases s:k=0;·subst s;have l:ws=[]:=aeQ ab;subst l;refine⟨.aG,H,[],by simp[iK,cE],.inl ⟨rfl,rfl,rfl,rfl⟩,aeq _,λj hj=>(by cases hj),λ_ _ _=>rfl⟩
  have m:aeF k 0=false:=by cases h:aeF k 0 with|false=>rfl|true=>exact absurd (aey h) s
  refine⟨.slice H.next 0 k k false,H.new (.cells (bX ws) (k*size) e true [] 0),[H.next],?_,?_,?_,?_,?_⟩;·rw[aeL]at hb hs;simp only[iK,h1,aeY,abu,bA,m,rG hb,rG hs,agq,bc]
  .rw[aeL];exact cI.new r false true
  .exact(aZ.new H _).nx
  .intro j hj;rw[aaN]at hj;subst hj;right;rw[ai.lD];omega
  intro j _ hj;exact(aZ.new H _).cM j hj
 by_cases b:n+k<=cap
 .have d:afx (n+k) cap=true:=aff b;by_cases s:k=0
  .subst s;have l:ws=[]:=aeQ ab;subst l;refine⟨.slice i 0 (n+0) cap ex,H,i::aM,?_,?_,aeq _,λj hj=>.inl hj,λ_ _ _=>rfl⟩;·simp only[iK,h1,aeY,abu,bA,d,bc,afM]
   exact .inr ⟨i,c,aM,cap,ex,rfl,rfl,hg,g,by simpa using hl,by simpa using x,w,a⟩
  have m:aeF k 0=false:=by cases h:aeF k 0 with|false=>rfl|true=>exact absurd (aey h) s
  have A:n*size+ws.length<=cap*size:=by rw[r,<-agh];exact aeV _ b
  have y:gw H i (0+n*size) ws=some ((H.dP aM).set i (.cells (fi c (0+n*size) ws) (cap*size) e true [] 0)):=by
   have hd:(decide (0<=0+n*size)&&decide (0+n*size+ws.length<=cap*size)&&cE ws)=true:=by simp only[aew,decide_eq_true_eq,h1,and_true];omega
   simp only[gw,hg,hd,bc]
  refine⟨.slice i 0 (n+k) cap ex,(H.dP aM).set i (.cells (fi c (0+n*size) ws) (cap*size) e true [] 0),[i],by simp only[iK,h1,aeY,abu,bA,d,bc,m,y],?_,?_,?_,?_⟩
  .refine .inr ⟨i,fi c (0+n*size) ws,[],cap,ex,rfl,rfl,by rw[ai.aJ,aH rfl],b,by rw[aex,hl,r,agh],λj hj=>?_,λp f=>?_,λB=>?_⟩
   .rw[nJ];rw[aex]at hj;by_cases o:j<vs.length;·rw[ap ab,x j o,List.getElem_append_left o]
    rw[aH ab,List.getElem_append_right ab];have:j - (0+n*size)<ws.length:=ab;simp only[aeD,this,getElem?_pos,afc];congr 1;omega
   .rw[aaN]at f;subst f;rw[ai.eI,ai.io];exact w _ (acm ..)
   rcases a B with h|h;·exact .inl h
   right;omega
  .rw[ai.eI,ai.io];exact aeq _
  .intro j hj;rw[aaN]at hj;subst hj;exact .inl (acm ..)
  intro j hj _;rw[ai.aJ,ap λe:j=i=>hj (by rw[e];exact acm ..),ai.sM,ap λe=>hj (aen _ e)]
 have d:afx (n+k) cap=false:=by cases h:afx (n+k) cap with|false=>rfl|true=>exact absurd (aeG h) b
 have hrd:eX c (cap*size) 0 (n*size)=some vs:=by have:=tm (c:=c) (n:=cap*size) (l:=vs) (o:=0) (by rw[aeL,hl];exact aeV _ g) (λj hj=>by rw[aeL];exact x j hj);rw[hl]at this;exact this
 have v:(!(dG ((n+k)*bytes)&&dG (n+k)))=false:=by rw[rG hb,rG hs];rfl
 cases ex with
 |true=>
  refine⟨.slice H.next 0 (n+k) (n+k) false,H.new (.cells (bX (vs++ws)) ((n+k)*size) e true [] 0),[H.next],by simp only[iK,h1,aeY,abu,bA,d,v,hg,hrd,bc],?_,(aZ.new H _).nx,?_,λj _ hj=>(aZ.new H _).cM j hj⟩;·exact cI.new (by rw[aex,hl,r,agh]) false true
  intro j hj;rw[aaN]at hj;subst hj;right;rw[ai.lD];omega
 |false=>
  have z:n=cap:=by rcases a rfl with h|h;cases h;exact h
  subst z;have q:(true&&aeF n n&&aeF (0+n*size) (n*size)&&aeF e e&&afx 0 (n*size))=true:=by simp[afM]
  have C:i.az<H.next.az:=w i (acm ..);refine⟨.slice H.next 0 (n+k) (n+k) false,(H.set i (.cells c (n*size) e false aM 0)).new (.cells (bX (vs++ws)) ((n+k)*size) e true (i::aM) 0),H.next::i::aM,by simp only[iK,h1,aeY,abu,bA,d,v,hg,hrd,q,bc],?_,?_,?_,?_⟩
  .refine .inr ⟨H.next,bX (vs++ws),i::aM,n+k,false,rfl,rfl,by rw[ai.cZ,ai.eI,aH rfl],aeq _,by rw[aex,hl,r,agh],λj hj=>vR hj,λp f=>?_,λ_=>.inr rfl⟩;rw[ai.lD,ai.eI];rcases aer.1 f with e|e;·subst e;omega
   have:=w p e;omega
  .rw[ai.lD,ai.eI];omega
  .intro j hj;rcases aer.1 hj with e|e;·subst e;right;rw[ai.lD,ai.eI];omega
   exact .inl e
  intro j hj o;rw[ai.cZ,ai.eI,ap (dg ab),ai.aJ,ap λe:j=i=>hj (by rw[e];exact acm ..)]
theorem RO.RN{ac:Nat->aX}{c:Cx}{s:List SI}{L:Kn}{d:Option af}{l:List bu}{i:List AV}{x y:aK}{f:AV}{k:Nat}(g:cI H fp e size vs n true sv)(hs:Sl H size ws k f)(h1:cE ws=true)(h:∀a H' b,cI H' b e size (vs++ws) (n+k) true a->H.next.az<=H'.next.az->(∀j∈b,j∈fp\/(H.next.az<=j.az/\j.az<H'.next.az))->(∀j:af,j∉fp->j.az<H.next.az->H'.get j=H.get j)->RO ac c l s (bj L d a) H')(m:aT L x=sv:=by exact cw)(o:aT L y=f:=by exact cw)(hb:(n+k)*bytes<=70368744177664:=by omega)(p:n+k<=70368744177664:=by omega):RO ac c (⟨d,.append e bytes size i false x y,none,[],[]⟩::l) s L H:=by obtain⟨a,H',b,h2,h3,q,r,t⟩:=g.append (bytes:=bytes) hs.length h1 hb p;exact RO.append hs.fB h2 (h a H' b h3 q r t) m g.sl.bq o hs.bq
end
section
variable{ac:Nat->aX}{c:Cx}{s:List SI}{L:Kn}{H:ai}{d:Option af}{l:List bu}
abbrev aI(z:Int):AV:=.int 3 z
abbrev aN(n:Nat):AV:=.int 3 (.ofNat n)
theorem mJ(l:List Int):cE (l.map aI)=true:=AA.2 λv a=>by obtain⟨z,_,rfl⟩:=aeK.1 a;rfl
abbrev fx(H:ai)(l:List Int)(a:AV):Prop:=Sl H 1 (l.map aI) l.length a
theorem RO.RP{a:List Int}{b:AV}{x y:aK}{j k:Nat}(hs:fx H a b)(h:∀i o z,a[j]?=some z->bx H i o=some (aI z)->i.az<H.next.az->RO ac c l s (bj L d (.aD i o)) H)(f:aT L x=b:=by exact cw)(g:aT L y=.int k (.ofNat j):=by exact cw)(hj:j<a.length:=by omega):RO ac c (⟨d,.dO 1 x y,none,[],[]⟩::l) s L H:=by obtain⟨i,o,m,e,rfl,h1,h2,h3,n⟩:=hs.at ab;refine RO.dO (h i (o+j*1) a[j] (getElem?_pos a j hj) ?_ h2) f g hj;have:=h3 (j*1) (by simpa using hj);rw[this];simp
theorem RO.AB{op:bC}{hd:List af}{re:List fU}{v:AV}{g:ai}(j:∀f a,op≠.call f a)(e:∀a,op≠.jy a)(he:∀aa,Le L aa->∃i,aE op aa (cS aa H hd).1=some (v,i)/\cB i (cS aa H hd).2=g)(k:∀aa,Le (bj L d v) aa->dl aa g re=true)(h:RO ac c l s (bj L d v) g):RO ac c (⟨d,op,none,hd,re⟩::l) s L H:=λaa b=>by obtain⟨n,m⟩:=h _ (b.set d v);obtain⟨i,h1,h2⟩:=he aa b;have h3:=k _ (b.set d v);refine⟨n+1,?_⟩;cases op<;>first|exact absurd rfl (j _ _)|exact absurd rfl (e _)|(simp only[Xo,Go.ak.aq,dc,bc,h1,h2,h3];exact m)
theorem RO.D1{d:Option af}{f:aK}{args:List aK}{l:List bu}{re:List fU}{fv:AV}{e:List AV}(h:YF ac fv e H λv b=>(∀aa,Le (bj L d v) aa->dl aa b re=true)/\RO ac c l s (bj L d v) b)(p:aT L f=fv:=by exact cw)(i:fv.bq=true:=by first|rfl|assumption)(q:args.map (aT L)=e:=by rfl)(j:e.all AV.bq=true:=by first|rfl|assumption):RO ac c (⟨d,.call f args,none,[],re⟩::l) s L H:=λaa a=>by
 obtain⟨n,r⟩:=h;have k:args.map (gv aa)=e:=by subst q;refine afK λx t=>?_;exact a.gv rfl (afv.1 j _ (aeX t))
 obtain⟨m,g⟩:=(vP ac n).call (K:=λm v b=>dl (aO aa d v) b re=true/\Xo ac m l ⟨aO aa d v,c.M,c.R⟩ b (iD ac c.K s .none)) (λm u v H g h=>⟨h.1,h.2.mono g λ_ _ h=>h⟩) ((mono ac n).call (aeq _) (λv b o=>by obtain⟨m,g⟩:=o.2 _ (a.set d v);exact⟨m,o.1 _ (a.set d v),g⟩) r);refine⟨max n m+1,?_⟩;simp only[Xo,Go.ak.aq,dc,cS,cB,bc];rw[a.gv p i,k];refine(show Xf ac n fv e H _ from g).mono (Nat.le_max_left ..) λv b h=>?_;rw[aH h.1];exact(show Xo ac m l _ b _ from h.2).mono (Nat.le_max_right ..) λ_ _ h=>h
end
section
variable{A B C H H':ai}{size n e bytes cap:Nat}{vs ws:List AV}{sv:AV}{fp fp' f a b c:List af}{full ex:Bool}{i:af}
structure kB(fp fp':List af)(H H':ai):Prop where
 nx:H.next.az<=H'.next.az
 hd:∀j∈fp',j∈fp\/H.next.az<=j.az
 cM:∀j:af,j∉fp->j.az<H.next.az->H'.get j=H.get j
def pi(A:ai)(fp:List af):Prop:=∀j∈fp,A.next.az<=j.az
theorem kB.bZ(h:kB fp fp' H H')(hg:aZ A H)(g:pi A fp):aZ A H':=⟨af2 hg.nx h.nx,λj hj=>by rw[h.cM j (λe=>by have:=g j e;omega) (ae2 hj hg.nx)];exact hg.cM j hj⟩
theorem kB.D2(h:kB fp fp' H H')(hg:aZ A H)(g:pi A fp):pi A fp':=λj hj=>by
 rcases h.hd j hj with e|e;·exact g j e
 have:=hg.nx;omega
theorem kB.refl(fp:List af)(H:ai):kB fp fp H H:=⟨aeq _,λ_ hj=>.inl hj,λ_ _ _=>rfl⟩
theorem cI.qn(h:cI H fp e size vs n full (.slice i 0 n cap ex)){o:Nat}{us:List AV}(z:o+ws.length<=cap*size)(h1:cE ws=true)(hl:us.length=vs.length)(hu:∀j,j<vs.length->us[j]?=if o<=j/\j<o+ws.length then ws[j - o]? else vs[j]?):∃H',gw H i o ws=some H'/\kB fp [i] H H'/\cI H' [i] e size us n full (.slice i 0 n cap ex):=by
 rcases h with⟨_,_,_,h⟩|⟨D,c,aM,u,y,rfl,h2,hg,r,t,v,w,m⟩;·cases h
 injection h2 with h2 _ _ h3 x;subst h2;subst h3;subst x;have hd:(decide (0<=o)&&decide (o+ws.length<=cap*size)&&cE ws)=true:=by simp only[aew,decide_eq_true_eq,h1,and_true];omega
 refine⟨(H.dP aM).set i (.cells (fi c o ws) (cap*size) e true [] 0),by simp only[gw,hg,hd,bc],⟨Nat.le_of_eq (by rw[ai.eI,ai.io]),λj hj=>?_,λj hj E=>?_⟩,?_⟩;·rw[aaN]at hj;subst hj;exact .inl (acm ..)
 .rw[ai.aJ,ap λe:j=i=>hj (by rw[e];exact acm ..),ai.sM,ap λe=>hj (aen _ e)]
 refine .inr ⟨i,fi c o ws,[],cap,ex,rfl,rfl,by rw[ai.aJ,aH rfl],r,hl.trans t,λj hj=>?_,λp q=>?_,m⟩
 .have g:j<vs.length:=ab;have:=hu j g;rw[getElem?_pos us j hj]at this;rw[nJ];split;·rename_i k;rw[aH k,getElem?_pos ws _ ab]at this;injection this with this;simp only[aeD];rw[getElem?_pos ws _ ab];simp[this]
  rename_i k;rw[ap k,getElem?_pos vs _ g]at this;injection this with this;rw[v j g,this]
 rw[aaN]at q;subst q;rw[ai.eI,ai.io];exact w _ (acm ..)
theorem cI.mem(h:cI H fp e size vs n full (.slice i 0 n cap ex)):i∈fp/\n<=cap/\i.az<H.next.az:=by
 rcases h with⟨_,_,_,h⟩|⟨q,c,aM,k,o,rfl,h2,hg,g,p,r,m,j⟩;·cases h
 injection h2 with h2 _ _ h3 t;subst h2;subst h3;exact⟨acm ..,g,m _ (acm ..)⟩
theorem cI.md(h:cI H fp e size vs n full sv)(o:n≠0):∃i cap ex,sv=.slice i 0 n cap ex:=by
 rcases h with⟨_,_,h,_⟩|⟨p,c,aM,g,j,rfl,h2,hg,m,q,r,t,k⟩;·exact absurd h o
 exact⟨p,g,j,h2⟩
variable{l:List (Int×Int)}
variable{ac:Nat->aX}{cx:Cx}{s:List SI}{L:Kn}{d:Option af}{aq:List bu}
end
section
variable{ac:Nat->aX}{c:Cx}{s:List SI}{L:Kn}{H H' A:ai}{d:Option af}{l:List bu}{size n e:Nat}{vs ws:List AV}{sv:AV}{fp fp':List af}
theorem RO.bT{q:af}{p:Prop} [Decidable p](h1:p->RO ac c l s ((q,.bool true)::L) H)(h2:¬p->RO ac c l s ((q,.bool false)::L) H):RO ac c l s ((q,.bool (decide p))::L) H:=by
 by_cases a:p;·rw[decide_eq_true a];exact h1 a
 rw[decide_eq_false a];exact h2 a
theorem RO.nV{q:af}{t:Bool}(h1:t=true->RO ac c l s ((q,.bool true)::L) H)(h2:t=false->RO ac c l s ((q,.bool false)::L) H):RO ac c l s ((q,.bool t)::L) H:=by cases t with|true=>exact h1 rfl|false=>exact h2 rfl
theorem mK{k b y:Nat}(h:b<=y):lS (.int k (.ofNat b)) y=some b:=by simp only[lS,aff h,bc]
theorem RO.I3{x y:aK}{b k:Nat}(hs:Sl H size vs n sv)(h:∀a,Sl H size (vs.take (b*size)) b a->RO ac c l s (bj L d a) H)(g:aT L x=sv:=by exact cw)(p:aT L y=.int k (.ofNat b):=by exact cw)(hb:b<=n:=by omega):RO ac c (⟨d,.gp e size x none (some y) none,none,[],[]⟩::l) s L H:=by
 rcases hs with⟨rfl,rfl,rfl⟩|⟨i,o,cap,ex,t,m,u,f,aM,fz,rfl,hg,C,hl,z,hi,r⟩;·have:b=0:=ab;subst this;refine RO.Az (m:=0) (b:=0) (a:=0) g rfl ?_ rfl (h _ (.inl ⟨rfl,rfl,aC⟩));simp only[jm,p];exact mK (aeq _)
 refine RO.gp (m:=cap) (b:=b) (a:=0) g rfl ?_ rfl aC ?_;·simp only[jm,p];exact mK ab
 have B:(if ex&&decide (cap=0)then o else o+0*size)=o:=by split<;>omega
 rw[B,ago,ago];have bH:b*size<=n*size:=aeV _ hb;refine h _ (.inr ⟨i,o,cap,_,t,m,u,f,aM,fz,rfl,hg,ab,?_,λj hj=>?_,hi,ab⟩);·rw[aeP];omega
 rw[aeP]at hj;rw[z j ab];simp
variable{q:af}{v w:AV}
theorem RO.RQ{f:List AV}(h:∀H' a fp',cI H' fp' e size [] 0 true a->aZ H H'->pi H fp'->RO ac c l s (bj L d a) H'):RO ac c (⟨d,.buildSlice e 0 f [],none,[],[]⟩::l) s L H:=by refine RO.buildSlice (vs:=[]) ?_ rfl rfl;have b:cI (H.new (.cells (bX []) (0*size) e true [] 0)) [H.next] e size [] 0 true (.slice H.next 0 0 0 true):=cI.new (vs:=[]) aC true true;rw[Nat.zero_mul]at b;exact h _ _ _ b (aZ.new H _) (λj hj=>by rw[aaN]at hj;subst hj;exact aeq _)
theorem RO.RR{x y:aK}{b:AV}{k bytes:Nat}{f:List AV}(g:cI H fp e size vs n true sv)(hs:Sl H size ws k b)(h1:cE ws=true)(h:∀a H' fp',cI H' fp' e size (vs++ws) (n+k) true a->kB fp fp' H H'->RO ac c l s (bj L d a) H')(i:aT L x=sv:=by exact cw)(m:aT L y=b:=by exact cw)(hb:(n+k)*bytes<=70368744177664:=by omega)(o:n+k<=70368744177664:=by omega):RO ac c (⟨d,.append e bytes size f false x y,none,[],[]⟩::l) s L H:=RO.RN g hs h1 (λa H' fp' h2 h3 p r=>h a H' fp' h2 ⟨h3,λj hj=>(p j hj).imp id λh=>h.1,r⟩) i m hb o
theorem RO.I4{e size:Nat}{x:aK}{lo hi f:Option aK}{i:af}{o n g:Nat}{ex:Bool}{a b m:Nat}{v:AV}(j:aT L x=.slice i o n g ex)(k:jm L f g g=some m)(hb:jm L hi n m=some b)(p:jm L lo 0 b=some a)(he:(ex||f.isSome||lo.isNone||oN H i e)=true)(r:AV.slice i (if ex&&decide (m=a)then o else o+a*size) (b - a) (m - a) (ex||f.isSome)=v)(h:RO ac c l s (bj L d v) H):RO ac c (⟨d,.gp e size x lo hi f,none,[],[]⟩::l) s L H:=by subst r;exact RO.gp j k hb p he h
end
section
variable{ac:Nat->aX}{c:Cx}{s:List SI}{L:Kn}{H H' A:ai}{d:Option af}{l:List bu}{size n e k cap bytes:Nat}{vs ws:List AV}{sv:AV}{fp fp':List af}{full ex:Bool}{i:af}
end
section
variable{ac:Nat->aX}{c:Cx}{s:List SI}{L:Kn}{H:ai}{d:Option af}{l:List bu}
theorem RO.DY{x a b:aK}{v:AV}(h:RO ac c l s (bj L d v) H)(f:aT L x=.bool true:=by exact cw)(g:aT L a=v:=by exact cw)(i:v.bq=true:=by first|rfl|assumption):RO ac c (⟨d,.pick x a b,none,[],[]⟩::l) s L H:=RO.op (λaa e=>by simp only[aE,e.gv f rfl,e.gv g i,bc]) h
theorem RO.DZ{x a b:aK}{v:AV}(h:RO ac c l s (bj L d v) H)(f:aT L x=.bool false:=by exact cw)(hb:aT L b=v:=by exact cw)(g:v.bq=true:=by first|rfl|assumption):RO ac c (⟨d,.pick x a b,none,[],[]⟩::l) s L H:=RO.op (λaa e=>by simp only[aE,e.gv f rfl,e.gv hb g,abu,bA]) h
theorem RO.IZ{op:bC}{g:af}{w:Bool}{hd:List af}{re:List fU}(h:RO ac c l s (bj L d .agx) H)(hg:aT L (.t g)=.tuple []:=by exact cw):RO ac c (⟨d,op,some (g,w),hd,re⟩::l) s L H:=λaa a=>by obtain⟨n,b⟩:=h _ (a.set d .agx);refine⟨n+1,?_⟩;have e:aa.get .agx g=.tuple []:=a.get hg rfl;simp only[Xo,Go.ak.aq,dc,iM,e,abu,bA,AV.bq,bc];exact b
theorem ad{v:AV}{l:List AV}(h:v.bq=true)(h2:l.all AV.bq=true):(v::l).all AV.bq=true:=by simp only[List.all_cons,h,h2,agq]
theorem RO.cl{f:aK}{args:List aK}{fv:AV}{a:List AV}(h:YF ac fv a H λv g=>RO ac c l s (bj L d v) g)(i:aT L f=fv:=by exact cw)(b:fv.bq=true:=by first|rfl|assumption)(ha:args.map (aT L)=a:=by rfl)(e:a.all AV.bq=true:=by repeat first|rfl|assumption|(refine ad ?_ ?_)):RO ac c (⟨d,.call f args,none,[],[]⟩::l) s L H:=RO.call h i b ha e
theorem pj{k:Nat}(h:1<=k)(a:k<1000000):eT .sub 3 (.ofNat k) (.ofNat 1)=some (.int 3 (.ofNat (k - 1))):=by simp only[eT];rw[show(afq k - afq 1:Int)=afq (k - 1)from by first|omega|(simp;omega)|(simp;done),ma (by first|omega|(simp;done)|(simp;omega)) (by first|omega|(simp;done)|(simp;omega))]
theorem bm{a:Type}{l:List a}{k:Nat}(h:k<l.length)(d:a):l.getD k d=l[k]:=by simp only[aeD,getElem?_pos l k h,afc]
theorem YF.lS{f:Nat}{a as_ cs:List AV}{K:KT}(h:YF ac (.func f a cs) as_ H K):YF ac (.func f [] cs) (a++as_) H K:=by obtain⟨n,h⟩:=h;refine⟨n,?_⟩;cases n with|zero=>simp only[Xf,dT]at h|succ n=>simpa only[Xf,dT,afz]using h
end
section
structure Th where
 P:ai->List af->Prop
 fr:∀{H H':ai}{fp:List af},P H fp->H.next.az<=H'.next.az->(∀j∈fp,H'.get j=H.get j)->P H' fp
 lt:∀{H:ai}{fp:List af},P H fp->∀j∈fp,j.az<H.next.az
def Fs(A H:ai):List (List af)->List Th->Prop
 |[],[]=>True
 |fp::fs,t::ts=>t.P H fp/\pi A fp/\(∀j∈fp,∀f∈fs,j∉f)/\Fs A H fs ts
 |_,_=>False
def al(A H:ai)(ts:List Th):Prop:=aZ A H/\∃fs,Fs A H fs ts
variable{A B H H' b:ai}{fs:List (List af)}{ts us:List Th}{t t':Th}{fp fp':List af}
theorem Fs.lt:∀{fs:List (List af)}{ts:List Th},Fs A H fs ts->∀f∈fs,∀j∈f,j.az<H.next.az
 |[],[],_,f,a=>by cases a
 |fp::fs,t::ts,⟨h1,_,_,c⟩,f,a=>by
  rcases aer.1 a with rfl|a;·exact t.lt h1
  exact Fs.lt c f a
 |[],_::_,h,_,_=>h.elim
 |_::_,[],h,_,_=>h.elim
theorem Fs.ge:∀{fs:List (List af)}{ts:List Th},Fs A H fs ts->∀f∈fs,pi A f
 |[],[],_,f,a=>by cases a
 |fp::fs,t::ts,⟨_,h2,_,c⟩,f,a=>by
  rcases aer.1 a with rfl|a;·exact h2
  exact Fs.ge c f a
 |[],_::_,h,_,_=>h.elim
 |_::_,[],h,_,_=>h.elim
theorem Fs.pg(a:H.next.az<=H'.next.az):∀{fs:List (List af)}{ts:List Th},Fs A H fs ts->(∀f∈fs,∀j∈f,H'.get j=H.get j)->Fs A H' fs ts|[],[],_,_=>trivial|_::_,t::_,⟨h1,h2,h3,c⟩,hg=>⟨t.fr h1 a (hg _ (acm ..)),h2,h3,Fs.pg a c λf d=>hg f (aen _ d)⟩|[],_::_,h,_=>h.elim|_::_,[],h,_=>h.elim
theorem Fs.iu(hg:aZ A H)(hu:kB fp fp' H H'):∀{fs:List (List af)}{ts:List Th}{i:Nat},Fs A H fs ts->ts[i]?=some t->fs[i]?=some fp->t'.P H' fp'->∃c,Fs A H' c (ts.set i t')/\∀f∈c,f=fp'\/f∈fs
 |[],[],i,_,h,_,_=>by simp at h
 |[],_::_,_,h,_,_,_=>h.elim
 |_::_,[],_,h,_,_,_=>h.elim
 |m::fs,t0::ts,0,⟨h1,h2,h3,g⟩,k,a,n=>by
  simp only[afZ,aas]at k a;subst k;subst a;refine⟨fp'::fs,⟨n,hu.D2 hg h2,λj hj f a e=>?_,Fs.pg hu.nx g λf a j hj=>hu.cM j (λe=>h3 j e f a hj) (Fs.lt g f a j hj)⟩,λf a=>(aer.1 a).imp id λh=>aen _ h⟩;rcases hu.hd j hj with h|h;·exact h3 j h f a e
  have:=Fs.lt g f a j e;omega
 |m::fs,t0::ts,i+1,⟨h1,h2,h3,g⟩,k,a,n=>by
  simp only[afh]at k a;have p:=List.mem_of_getElem? a;have l:=t0.lt h1;have d:∀j∈m,j∉fp:=λj hj=>h3 j hj fp p;obtain⟨c,q,o⟩:=Fs.iu hg hu g k a n;refine⟨m::c,⟨t0.fr h1 hu.nx λj hj=>hu.cM j (d j hj) (l j hj),h2,λj hj f a e=>?_,q⟩,λf a=>?_⟩
  .rcases o f a with rfl|h
   .rcases hu.hd j e with h|h;·exact d j hj h
    have:=l j hj;omega
   exact h3 j hj f h e
  rcases aer.1 a with rfl|h;·exact .inr (acm ..)
  exact(o f h).imp id λh=>aen _ h
theorem Fs.at:∀{fs:List (List af)}{ts:List Th}{i:Nat},Fs A H fs ts->ts[i]?=some t->∃fp,fs[i]?=some fp/\t.P H fp|[],[],i,_,h=>by simp at h|[],_::_,_,h,_=>h.elim|_::_,[],_,h,_=>h.elim|c::fs,t0::ts,0,⟨h1,_,_,_⟩,a=>by simp only[afZ,aas]at a;subst a;exact⟨c,rfl,h1⟩|c::fs,t0::ts,i+1,⟨_,_,_,d⟩,a=>by simp only[afh]at a;obtain⟨fp,e,h⟩:=Fs.at d a;exact⟨fp,by simpa using e,h⟩
theorem al.iu(U:al A H ts)(i:Nat)(hi:ts[i]?=some t):∃fp,t.P H fp/\pi A fp/\∀{H':ai}{fp':List af}{t':Th},kB fp fp' H H'->t'.P H' fp'->al A H' (ts.set i t'):=by obtain⟨hg,fs,a⟩:=U;obtain⟨fp,e,h⟩:=a.at hi;refine⟨fp,h,a.ge fp (List.mem_of_getElem? e),λhu d=>⟨hu.bZ hg (a.ge fp (List.mem_of_getElem? e)),?_⟩⟩;obtain⟨c,h1,_⟩:=a.iu hg hu hi e d;exact⟨c,h1⟩
theorem al.gr(U:al A H ts):aZ A H:=U.1
theorem al.nil(hg:aZ A H):al A H []:=⟨hg,[],trivial⟩
theorem al.push(U:al A H ts)(hg:aZ H H')(h:t.P H' fp)(d:pi H fp):al A H' (t::ts):=by obtain⟨g,fs,a⟩:=U;refine⟨g.trans hg,fp::fs,h,λj hj=>af2 g.nx (d j hj),λj hj f c e=>?_,Fs.pg hg.nx a λf c j hj=>hg.cM j (a.lt f c j hj)⟩;have:=a.lt f c j e;have:=d j hj;omega
theorem al.bZ(U:al A H ts)(hg:aZ H H'):al A H' ts:=by obtain⟨c,fs,a⟩:=U;exact⟨c.trans hg,fs,Fs.pg hg.nx a λf d j hj=>hg.cM j (a.lt f d j hj)⟩
theorem al.tail(U:al A H (t::ts)):al A H ts:=by obtain⟨c,fs,a⟩:=U;cases fs with|nil=>exact a.elim|cons f fs=>exact⟨c,fs,a.2.2.2⟩
theorem al.eK(U:al A H ts):∀{us:List Th},al H H' us->al A H' (us++ts)
 |us,q=>by
  obtain⟨hg,fs,l⟩:=q;have h0:=U.bZ hg;induction us generalizing fs with
  |nil=>exact h0
  |cons t us m=>
   cases fs with
   |nil=>exact l.elim
   |cons f fs=>
    obtain⟨h1,h2,h3,g⟩:=l;obtain⟨n,o,a⟩:=U;have key:∀{us:List Th}{fs:List (List af)},Fs H H' fs us->∃c,Fs A H' c (us++ts)/\∀k∈c,k∈fs\/k∈o:=by
     intro us;induction us with
     |nil=>intro fs _;exact⟨o,Fs.pg hg.nx a λf r j hj=>hg.cM j (a.lt f r j hj),λk d=>.inr d⟩
     |cons t us m=>
      intro fs h;cases fs with
      |nil=>exact h.elim
      |cons f fs=>
       obtain⟨h1,h2,h3,g⟩:=h;obtain⟨c,i,p⟩:=m g;refine⟨f::c,⟨h1,λj hj=>af2 n.nx (h2 j hj),λj hj k d e=>?_,i⟩,λk d=>?_⟩
       .rcases p k d with h|h;·exact h3 j hj k h e
        have:=a.lt k h j e;have:=h2 j hj;omega
       rcases aer.1 d with rfl|h;·exact .inl (acm ..)
       exact(p k h).imp (aen _) id
    obtain⟨c,i,_⟩:=key (us:=t::us) (fs:=f::fs) ⟨h1,h2,h3,g⟩;exact⟨n.trans hg,c,i⟩
theorem al.bL(U:al A H ts)(a:H'.next=H.next)(hg:∀j,H'.get j=H.get j):al A H' ts:=U.bZ ⟨by rw[a];exact aeq _,λj _=>hg j⟩
theorem al.bY(H:ai):al H H []:=al.nil (aZ.refl H)
theorem Fs.I5:∀{fs:List (List af)}{ts:List Th}{i:Nat},Fs A H fs ts->ts[i]?=some t->∃fp a,t.P H fp/\pi A fp/\Fs A H a (ts.eraseIdx i)/\(∀g∈a,g∈fs)/\fp∈fs/\∀j∈fp,∀g∈a,j∉g
 |[],[],i,_,h=>by simp at h
 |[],_::_,_,h,_=>h.elim
 |_::_,[],_,h,_=>h.elim
 |d::fs,t0::ts,0,⟨h1,h2,h3,f⟩,c=>by simp only[afZ,aas]at c;subst c;exact⟨d,fs,h1,h2,f,λg hg=>aen _ hg,acm ..,h3⟩
 |d::fs,t0::ts,i+1,⟨h1,h2,h3,f⟩,c=>by
  simp only[afh]at c;obtain⟨fp,a,m,n,o,k,l,p⟩:=Fs.I5 f c;refine⟨fp,d::a,m,n,⟨h1,h2,λj hj g hg=>h3 j hj g (k g hg),o⟩,λg hg=>?_,aen _ l,λj hj g hg e=>?_⟩
  .rcases aer.1 hg with rfl|h;·exact acm ..
   exact aen _ (k g h)
  rcases aer.1 hg with rfl|h;·exact h3 j e fp l hj
  exact p j hj g h e
theorem al.eL(U:al A H ts)(i:Nat)(hi:ts[i]?=some t):al A H (t::ts.eraseIdx i):=by obtain⟨a,fs,c⟩:=U;obtain⟨fp,d,e,f,g,_,_,h⟩:=c.I5 hi;exact⟨a,fp::d,e,f,h,g⟩
theorem al.get(U:al A H ts)(i:Nat)(hi:ts[i]?=some t):∃fp,t.P H fp:=by obtain⟨fp,h,_⟩:=U.iu i hi;exact⟨fp,h⟩
theorem al.as(U:al A H ts)(i:Nat)(hi:ts[i]?=some t)(h:∀fp,t.P H fp->t'.P H fp):al A H (ts.set i t'):=by obtain⟨fp,h1,_,h2⟩:=U.iu i hi;exact h2 (kB.refl fp H) (h fp h1)
theorem al.I6(U:al A H ts)(hg:aZ B A):al B H ts:=by
 obtain⟨c,fs,a⟩:=U;refine⟨hg.trans c,fs,?_⟩;induction fs generalizing ts with
 |nil=>cases ts with|nil=>trivial|cons _ _=>exact a.elim
 |cons f fs d=>cases ts with|nil=>exact a.elim|cons t ts=>exact⟨a.1,λj hj=>af2 hg.nx (a.2.1 j hj),a.2.2.1,d a.2.2.2⟩
theorem Fs.cH(h:ts.Perm us):∀{fs:List (List af)},Fs A H fs ts->∃c,Fs A H c us/\∀g,g∈c↔g∈fs:=by
 induction h with
 |nil=>intro fs h;exact⟨fs,h,λ_=>Iff.rfl⟩
 |cons t _ q=>intro fs h;cases fs with|nil=>exact h.elim|cons f fs=>obtain⟨h1,h2,h3,m⟩:=h;obtain⟨c,n,i⟩:=q m;exact⟨f::c,⟨h1,h2,λj hj g hg=>h3 j hj g ((i g).1 hg),n⟩,λg=>by simp only[aer,i]⟩
 |swap a y l=>
  intro fs h;cases fs with
  |nil=>exact h.elim
  |cons f fs=>
   cases fs with
   |nil=>exact h.2.2.2.elim
   |cons g fs=>
    obtain⟨h1,h2,h3,m,r,s,u⟩:=h;refine⟨g::f::fs,⟨m,r,λj hj k d=>?_,h1,h2,λj hj k d=>h3 j hj k (aen _ d),u⟩,λk=>by simp only[aer];grind⟩;rcases aer.1 d with rfl|d;·exact λe=>h3 j e g (acm ..) hj
    exact s j hj k d
 |trans _ _ o p=>intro fs h;obtain⟨c,n,i⟩:=o h;obtain⟨v,w,x⟩:=p n;exact⟨v,w,λg=>(x g).trans (i g)⟩
theorem al.cH(U:al A H ts)(h:ts.Perm us):al A H us:=by obtain⟨a,fs,c⟩:=U;obtain⟨d,e,_⟩:=c.cH h;exact⟨a,d,e⟩
theorem al.eC{xs:List Th}(U:al A H (xs++ts++us)):al A H (ts++(xs++us)):=by have:=U.cH (ae4.append_right us);rwa[aeC]at this
theorem al.jU{xs:List Th}(U:al A H (ts++(xs++us))):al A H (xs++ts++us):=by rw[<-aeC]at U;exact U.cH (ae4.append_right us)
theorem al.AC(U:al A H (t::ts++us)):al A H (ts++t::us):=U.cH afd.symm
theorem al.rH(U:al A H (ts++t::us)):al A H (t::ts++us):=U.cH afd
theorem Fs.sub(h:us.Sublist ts):∀{fs:List (List af)},Fs A H fs ts->∃c,Fs A H c us/\∀g∈c,g∈fs:=by
 induction h with
 |slnil=>intro fs h;exact⟨fs,h,λ_ h=>h⟩
 |cons a _ i=>intro fs h;cases fs with|nil=>exact h.elim|cons f fs=>obtain⟨c,k,d⟩:=i h.2.2.2;exact⟨c,k,λg hg=>aen _ (d g hg)⟩
 |cons_cons a _ i=>intro fs h;cases fs with|nil=>exact h.elim|cons f fs=>obtain⟨h1,h2,h3,l⟩:=h;obtain⟨c,k,d⟩:=i l;exact⟨f::c,⟨h1,h2,λj hj g hg=>h3 j hj g (d g hg),k⟩,λg hg=>(aer.1 hg).elim (λe=>e▸acm ..) λh=>aen _ (d g h)⟩
theorem al.sub(U:al A H ts)(h:us.Sublist ts):al A H us:=by obtain⟨a,fs,c⟩:=U;obtain⟨d,e,_⟩:=c.sub h;exact⟨a,d,e⟩
theorem al.skip{a:List Th}(U:al A H (ts++a++us)):al A H (ts++us):=by rw[aeC]at U;exact U.sub ((List.sublist_append_right a us).append_left ts)
end
section
def tS(e size:Nat)(vs:List AV)(n:Nat)(full:Bool)(sv:AV):Th where
 P H fp:=cI H fp e size vs n full sv
 fr h a hg:=h.frame a hg
 lt h:=h.below
def tB(e:Nat)(q:af)(vs:List AV):Th where
 P H fp:=q∈fp/\(∀j∈fp,j=q)/\∃c,H.get q=.cells c vs.length e true [] 0/\(∀j(h:j<vs.length),c.bN .agx j=vs[j])/\q.az<H.next.az
 fr h b hg:=by
  obtain⟨h1,h2,c,h3,f,a⟩:=h
  exact⟨h1,h2,c,by rw[hg _ h1];exact h3,f,ae2 a b⟩
 lt h:=by
  obtain⟨_,h2,c,_,_,a⟩:=h
  intro j hj;rw[h2 j hj];exact a
variable{A H H':ai}{ts us:List Th}{e size n o m i k bytes:Nat}{vs ws:List AV}{sv v w:AV}{full ex:Bool}{q:af}{cap:Nat}{fp:List af}
variable{ac:Nat->aX}{c:Cx}{s:List SI}{L:Kn}{d:Option af}{l:List bu}
theorem ao{v:AV}{l:List AV}(h:v.db=true)(h2:cE l=true):cE (v::l)=true:=by simp only[cE,h,h2,agq]
theorem cI.I7(h:cI H fp e size vs n full (.slice q 0 n cap ex))(g:vs[o]?=some v):bx H q o=some v:=by
 obtain⟨b,j⟩:=ae7.1 g;have p:0<n:=by
  have:=h.sl.length;rcases af6 n with e|e;·subst e;simp at this;rw[this]at b;simp at b
  exact e
 obtain⟨i,r,t,u,a,_,_,hat,_⟩:=h.sl.at p;injection a with a f;subst a;subst f;have:=hat o b;rw[aeL]at this;rw[this,j]
theorem tB.cell{fp:List af}(h:(tB e q vs).P H fp)(b:vs[o]?=some v):bx H q o=some v:=by obtain⟨_,_,c,h3,f,_⟩:=h;obtain⟨a,g⟩:=ae7.1 b;simp only[bx,h3,show ae0 o vs.length=true from agu afs a,bc,f o a,g]
theorem tB.mL{fp:List af}(h:(tB e q vs).P H fp)(f:o+m<=vs.length):du H q o m=some ((vs.drop o).take m):=by obtain⟨_,_,c,h3,a,_⟩:=h;have:=tm (c:=c) (n:=vs.length) (l:=(vs.drop o).take m) (o:=o) (by simp;omega) (λx b=>by simp only[aeP,afF]at b;rw[a (o+x) ab];simp);simp only[aeP,afF]at this;rw[af7 ab]at this;simp only[du,h3,this]
def sp(vs:List AV)(o:Nat)(ws:List AV):List AV:=vs.take o++(ws++vs.drop (o+ws.length))
theorem D3(h:o+ws.length<=vs.length):(sp vs o ws).length=vs.length:=by simp[sp];omega
theorem I8(h:o+ws.length<=vs.length)(j:Nat):(sp vs o ws)[j]?=if o<=j/\j<o+ws.length then ws[j - o]? else vs[j]?:=by
 unfold sp;rw[List.getElem?_append];simp only[aeP,af7 (show o<=vs.length by omega)];split;·rename_i h1;rw[ap ab,List.getElem?_take,aH h1]
 rename_i h1;rw[List.getElem?_append];split;·rename_i h2;rw[aH ab]
 rename_i h2;rw[ap ab,List.getElem?_drop];congr 1;omega
theorem RS(h:o<vs.length):sp vs o [w]=vs.set o w:=by
 apply List.ext_getElem?;intro j;rw[I8 (by simp;omega),List.getElem?_set];simp only[ae8];by_cases hj:o=j;·subst hj;rw[aH ab,aH rfl,aH h];simp
 rw[ap ab,ap hj]
theorem tB.qn{fp:List af}(h:(tB e q vs).P H fp)(b:o+ws.length<=vs.length)(h1:cE ws=true):∃H' a,gw H q o ws=some H'/\kB fp a H H'/\(tB e q (sp vs o ws)).P H' a:=by
 obtain⟨g,h2,c,h3,i,p⟩:=h;have hd:(decide (0<=o)&&decide (o+ws.length<=vs.length)&&cE ws)=true:=by simp only[aew,decide_eq_true_eq,h1,and_true];omega
 refine⟨(H.dP []).set q (.cells (fi c o ws) vs.length e true [] 0),[q],by simp only[gw,h3,hd,bc],⟨Nat.le_of_eq (by rw[ai.eI];rfl),λj hj=>?_,λj hj r=>?_⟩,aaN.2 rfl,λj hj=>aaN.1 hj,fi c o ws,?_,λj hj=>?_,by rw[ai.eI];exact p⟩;·rw[aaN]at hj;subst hj;exact .inl g
 .rw[ai.aJ,ap λe:j=q=>hj (by rw[e];exact g)];rfl
 .rw[ai.aJ,aH rfl,D3 b]
 rw[D3 b]at hj;rw[nJ];have:=I8 b j;rw[getElem?_pos (sp vs o ws) j (by rw[D3 b];exact hj)]at this;split;·rename_i f;rw[aH f,getElem?_pos ws _ ab]at this;injection this with this;simp only[aeD];rw[getElem?_pos ws _ ab];simp[this]
 rename_i f;rw[ap f,getElem?_pos vs _ hj]at this;injection this with this;rw[i j hj,this]
theorem RO.gR(U:al A H ts)(i:Nat){x:aK}(h:RO ac c l s (bj L d v) H)(a:aT L x=.aD q o:=by exact cw)(hi:ts[i]?=some (tB e q vs):=by rfl)(b:vs[o]?=some v:=by rfl):RO ac c (⟨d,.bk x,none,[],[]⟩::l) s L H:=by obtain⟨fp,f⟩:=U.get i hi;exact RO.bk h a (tB.cell f b)
theorem RO.cr(U:al A H ts)(i:Nat){x:aK}(h:RO ac c l s (bj L d (.agg ((vs.drop o).take m))) H)(a:aT L x=.aD q o:=by exact cw)(hi:ts[i]?=some (tB e q vs):=by rfl)(hm:o+m<=vs.length:=by first|decide|exact aeG rfl|simp|omega):RO ac c (⟨d,.fL m x,none,[],[]⟩::l) s L H:=by obtain⟨fp,b⟩:=U.get i hi;exact RO.fL h a (tB.mL b hm)
theorem RO.dh(U:al A H ts)(i:Nat){x:aK}(h:RO ac c l s (bj L d v) H)(a:aT L x=.aD q o:=by exact cw)(hi:ts[i]?=some (tS e size vs n full (.slice q 0 n cap ex)):=by rfl)(hv:vs[o]?=some v:=by rfl):RO ac c (⟨d,.bk x,none,[],[]⟩::l) s L H:=by obtain⟨fp,b⟩:=U.get i hi;exact RO.bk h a (cI.I7 b hv)
theorem RO.eo(U:al A H ts)(i:Nat){a x:aK}(h:∀H',al A H' (ts.set i (tB e q (vs.set o w)))->RO ac c l s (bj L d .agx) H')(f:aT L a=.aD q o:=by exact cw)(g:aT L x=w:=by exact cw)(hi:ts[i]?=some (tB e q vs):=by rfl)(j:o<vs.length:=by first|decide|exact aeG rfl|simp|omega)(p:w.db=true:=by first|rfl|assumption)(b:w.cells=[w]:=by first|rfl|assumption)(hd:w.bq=true:=by first|rfl|assumption):RO ac c (⟨d,.store 1 a x,none,[],[]⟩::l) s L H:=by obtain⟨fp,r,_,hu⟩:=U.iu i hi;obtain⟨H',t,h1,h2,h3⟩:=tB.qn (o:=o) (ws:=[w]) r (by simp only[ae8];omega) (by simp[cE,p]);rw[RS j]at h3;exact RO.store (by rw[b];exact h1) (h H' (hu h2 h3)) f g hd (by rw[b];rfl)
theorem RO.eQ(U:al A H ts)(i:Nat){a x:aK}(h:∀H',al A H' (ts.set i (tB e q (sp vs o ws)))->RO ac c l s (bj L d .agx) H')(b:aT L a=.aD q o:=by exact cw)(f:aT L x=.agg ws:=by exact cw)(hi:ts[i]?=some (tB e q vs):=by rfl)(g:o+ws.length<=vs.length:=by first|decide|exact aeG rfl|simp|omega)(j:ws.length=n:=by first|rfl|simp)(p:cE ws=true:=by repeat first|rfl|assumption|(refine ao ?_ ?_)):RO ac c (⟨d,.store n a x,none,[],[]⟩::l) s L H:=by obtain⟨fp,r,_,hu⟩:=U.iu i hi;obtain⟨H',t,h1,h2,h3⟩:=tB.qn (ws:=ws) r g p;exact RO.store (v:=.agg ws) h1 (h H' (hu h2 h3)) b f rfl j
theorem I9.set{b:Type}{f:b->AV}{a:List b}(h:cI H fp e 1 (a.map f) a.length full (.slice q 0 a.length cap ex))(g:k<a.length)(z:b)(h1:(f z).db=true):∃H',gw H q (0+k*1) [f z]=some H'/\kB fp [q] H H'/\cI H' [q] e 1 ((a.set k z).map f) (a.set k z).length full (.slice q 0 (a.set k z).length cap ex):=by
 have i:=(cI.mem h).2.1;have:=cI.qn h (o:=0+k*1) (ws:=[f z]) (us:=(a.set k z).map f) (by simp;omega) (by simp[cE,h1]) aC λj hj=>by
  simp only[aeR]at hj;simp only[ae5,List.getElem?_set,ae8];by_cases e:k=j;·subst e;rw[aH rfl,aH ab];simp[g]
  rw[ap e,ap ab]
 rw[afQ];exact this
theorem RO.gF{b:Type}{f:b->AV}{zs:List b}(U:al A H ts)(i:Nat)(z:b)(j:zs.length=n){a x:aK}(h:∀H',al A H' (ts.set i (tS e 1 ((zs.set k z).map f) n full (.slice q 0 n cap ex)))->RO ac c l s (bj L d .agx) H')(p:aT L a=.aD q (0+k*1):=by exact cw)(r:aT L x=f z:=by exact cw)(hi:ts[i]?=some (tS e 1 (zs.map f) n full (.slice q 0 n cap ex)):=by rfl)(ho:k<zs.length:=by first|omega|assumption)(t:(f z).db=true:=by first|rfl|assumption)(g:(f z).cells=[f z]:=by first|rfl|assumption)(hd:(f z).bq=true:=by first|rfl|assumption):RO ac c (⟨d,.store 1 a x,none,[],[]⟩::l) s L H:=by subst j;obtain⟨fp,u,_,hu⟩:=U.iu i hi;obtain⟨H',h1,h2,h3⟩:=I9.set (k:=k) u ho z t;refine RO.store (by rw[g];exact h1) (h H' ?_) p r hd (by rw[g];rfl);have:=hu (t':=tS e 1 ((zs.set k z).map f) (zs.set k z).length full (.slice q 0 (zs.set k z).length cap ex)) h2 h3;rw[afQ]at this;exact this
theorem lE{b:Type}{f:b->AV}{a:List b}(z:b)(g:k<a.length):(a.map f)[0+k*1]?=some (f (a.getD k z)):=by rw[show 0+k*1=k by omega,ae5,getElem?_pos a k g];simp[g]
theorem tB.new(e:Nat)(vs:List AV)(H:ai):(tB e H.next vs).P (H.new (.cells (bX vs) vs.length e true [] 0)) [H.next]:=⟨aaN.2 rfl,λj hj=>aaN.1 hj,bX vs,by rw[ai.cZ,aH rfl],λj hj=>vR hj,by rw[ai.lD];omega⟩
theorem rI(H:ai):pi H [H.next]:=λj hj=>by rw[aaN]at hj;subst hj;exact aeq _
theorem al.I'(U:al A H ts)(e:Nat)(vs:List AV):al A (H.new (.cells (bX vs) vs.length e true [] 0)) (tB e H.next vs::ts):=U.push (aZ.new H _) (tB.new e vs H) (rI H)
theorem RO.cG(U:al A H ts){x:aK}(h:∀H' q,al A H' (tB e q v.cells::ts)->RO ac c l s (bj L d (.aD q 0)) H')(a:aT L x=v:=by exact cw)(b:v.bq=true:=by first|rfl|assumption)(ho:cE v.cells=true:=by repeat first|rfl|assumption|(refine ao ?_ ?_)):RO ac c (⟨d,.box e x,none,[],[]⟩::l) s L H:=RO.box (h _ _ (U.I' e v.cells)) a b ho
theorem RO.dM(U:al A H ts){a:List AV}(h:∀H' q,al A H' (tB e q a::ts)->RO ac c l s (bj L d (.aD q 0)) H'):RO ac c (⟨d,.alloc e a,none,[],[]⟩::l) s L H:=RO.alloc (h _ _ (U.I' e a))
theorem RO.eR(U:al A H ts){p:af}{a us:List AV}{x:aK}{xv:AV}(h:∀H' q,al A H' (tB e q us::ts)->RO ac c l s ((p,.aD q 0)::L) H')(i:∀w,aT ((p,w)::L) x=xv:=by(intro w;conv=>lhs;whnf)<;>rfl)(f:xv.cells=us:=by first|rfl|assumption)(j:us.length=n:=by first|rfl|simp)(C:a.length=n:=by rfl)(h1:cE us=true:=by repeat first|rfl|assumption|(refine ao ?_ ?_))(hd:xv.bq=true:=by first|rfl|assumption):RO ac c (⟨some p,.alloc e a,none,[],[]⟩::⟨none,.store n (.t p) x,none,[],[]⟩::l) s L H:=by
 refine RO.dM U λD q b=>?_;obtain⟨fp,r,_,hu⟩:=b.iu 0 rfl;obtain⟨H',B,u,y,g⟩:=tB.qn (o:=0) (ws:=us) r ab h1;have z:sp a 0 us=us:=by simp[sp,List.drop_eq_nil_of_le (show a.length<=us.length by omega)]
 rw[z]at g;exact RO.store (i:=q) (o:=0) (v:=xv) (by rw[f];exact u) (h H' q (hu y g)) (by show lk (bj L (some p) _) p=_;simp only[bj,lk,af.fo.2 rfl]) (i _) hd (by rw[f];exact j)
theorem RO.jn(U:al A H ts){a:List AV}{x y:aK}(h:∀H' q,al A H' (tS e size (ep a n) n true (.slice q 0 n n true)::ts)->RO ac c l s (bj L d (.slice q 0 n n true)) H')(hx:aT L x=.int 3 (.ofNat n):=by exact cw)(hy:aT L y=.int 3 (.ofNat n):=by exact cw)(hz:(ep a n).length=n*size)(hb:n*bytes<=70368744177664:=by omega)(b:n<=70368744177664:=by omega):RO ac c (⟨d,.ng e bytes size a x y,none,[],[]⟩::l) s L H:=RO.ng (h _ _ (U.push (aZ.new H _) (cI.new hz true true) (rI H))) hx hy
theorem eS(z:AV):∀n,ep [z] n=aeo n z|0=>rfl|n+1=>by simp only[ep,eS z n];rfl
theorem RO.lF(U:al A H ts)(size:Nat){b:List AV}(h:∀H' v,al A H' (tS e size [] 0 true v::ts)->RO ac c l s (bj L d v) H'):RO ac c (⟨d,.buildSlice e 0 b [],none,[],[]⟩::l) s L H:=RO.RQ (size:=size) λH' a f h1 h2 h3=>h H' a (U.push h2 h1 h3)
theorem al.qp(U:al A H ts)(e size:Nat):al A H (tS e size [] 0 true .aG::ts):=U.push (fp:=[]) (aZ.refl H) (.inl ⟨rfl,rfl,rfl,rfl⟩) λj hj=>by cases hj
theorem RO.me(U:al A H ts)(i:Nat){x y:aK}{b:AV}{f:List AV}(hs:Sl H size ws k b)(h:∀H' v,al A H' (ts.set i (tS e size (vs++ws) (n+k) true v))->RO ac c l s (bj L d v) H')(hi:ts[i]?=some (tS e size vs n true sv):=by rfl)(h1:cE ws=true:=by repeat first|rfl|assumption|(refine ao ?_ ?_))(g:aT L x=sv:=by exact cw)(j:aT L y=b:=by exact cw)(hb:(n+k)*bytes<=70368744177664:=by omega)(p:n+k<=70368744177664:=by omega):RO ac c (⟨d,.append e bytes size f false x y,none,[],[]⟩::l) s L H:=by obtain⟨fp,r,_,hu⟩:=U.iu i hi;exact RO.RR r hs h1 (λa H' z t u=>h H' a (hu u t)) g j hb p
theorem RO.push(U:al A H ts)(i:Nat){p:af}{x:aK}{b:List (Nat×Nat×aK)}{f a:List AV}(h:∀w H' v,al A H' (ts.set i (tS e size (vs++ws) (n+1) true v))->RO ac c l s (bj ((p,w)::L) d v) H')(hi:ts[i]?=some (tS e size vs n true sv):=by rfl)(hl:mc L (ep f 1) b=some ws:=by exact cw)(j:ws.length=size:=by first|rfl|simp)(h1:cE ws=true:=by repeat first|rfl|assumption|(refine ao ?_ ?_))(g:∀w,aT ((p,w)::L) x=sv:=by(intro w;conv=>lhs;whnf)<;>rfl)(hb:(n+1)*bytes<=70368744177664:=by omega)(hn:n+1<=70368744177664:=by omega):RO ac c (⟨some p,.buildSlice e 1 f b,none,[],[]⟩::⟨d,.append e bytes size a false x (.t p),none,[],[]⟩::l) s L H:=by
 refine RO.buildSlice ?_ hl h1;have hg:aZ H (H.new (.cells (bX ws) ws.length e true [] 0)):=aZ.new H _;have hs:Sl (H.new (.cells (bX ws) ws.length e true [] 0)) size ws 1 (.slice H.next 0 1 1 true):=by have:=(cI.new (H:=H) (e:=e) (size:=size) (n:=1) (vs:=ws) ab true true).sl;rw[show ws.length=1*size by omega];exact this
 exact RO.me (U.bZ hg) i hs (λH' v h2=>h _ H' v h2) hi h1 (g _) (by show lk (bj L (some p) _) p=_;simp only[bj,lk,af.fo.2 rfl]) hb hn
theorem RO.j9(U:al A H ts)(size:Nat){a:List (Nat×Nat×aK)}{b:List AV}(h:∀H' q,al A H' (tS e size ws n true (.slice q 0 n n true)::ts)->RO ac c l s (bj L d (.slice q 0 n n true)) H')(hl:mc L (ep b n) a=some ws:=by exact cw)(f:ws.length=n*size:=by rfl)(h1:cE ws=true:=by repeat first|rfl|assumption|(refine ao ?_ ?_)):RO ac c (⟨d,.buildSlice e n b a,none,[],[]⟩::l) s L H:=by refine RO.buildSlice ?_ hl h1;rw[f];exact h _ _ (U.push (aZ.new H _) (cI.new f true true) (rI H))
theorem al.md(U:al A H ts)(i:Nat)(hi:ts[i]?=some (tS e size vs n full sv))(a:n≠0):∃q cap ex,sv=.slice q 0 n cap ex:=by obtain⟨fp,b⟩:=U.get i hi;exact cI.md b a
theorem Sl.all(h:Sl H size vs n sv):sv.bq=true/\sv.db=true/\sv.cells=[sv]/\lenOf sv=some n:=⟨h.bq,h.db,h.cells,h.len⟩
theorem al.sl(U:al A H ts)(i:Nat)(hi:ts[i]?=some (tS e size vs n full sv):=by rfl):Sl H size vs n sv:=by obtain⟨fp,a⟩:=U.get i hi;exact cI.sl a
theorem up{P:Nat->Prop}(n:Nat)(h:∀k,k<=n->(∀j,k<j->j<=n->P j)->P k):∀k,k<=n->P k:=by
 have:∀d k,n - k=d->k<=n->P k:=by intro d;induction d using Nat.strongRecOn with|ind d b=>intro k hd a;exact h k a λj h1 h2=>b (n - j) ab j rfl h2
 exact λk a=>this _ k rfl a
end
end Go.ak
namespace Go.G
structure dI where
 op:Nat
 to:Int
 args:List Int
 n:Int
 m:Int
 i7:List Nat
 deriving Inhabited
structure Edge where
 block:Int
 args:List Int
 deriving Inhabited
structure eV where
 op:Nat
 args:List Int
 i7:List Nat
 bp:List Nat
 go:List Edge
 deriving Inhabited
structure dE where
 i4:List Int
 aL:List dI
 aA:eV
 deriving Inhabited
structure aY where
 i7:List Nat
 i4:Int
 aW:Int
 aj:List dE
 deriving Inhabited
end Go.G
namespace Go.G
structure Sm(g:aY):Prop where
 nb:g.aj.length<=5000
 bl:∀b∈g.aj,b.i4.length<=12/\b.aL.length<=40/\b.aA.args.length<=12/\b.aA.bp.length<=12/\b.aA.go.length<=12/\b.aA.i7.length<=60
 st:∀b∈g.aj,∀s∈b.aL,s.args.length<=12/\s.i7.length<=250
 ed:∀b∈g.aj,∀e∈b.aA.go,e.args.length<=12
end Go.G
namespace Go.ak
abbrev aU(n:Nat):AV:=.int 4 (.ofNat n)
abbrev D4(H:ai)(l:List Nat)(sv:AV):Prop:=Sl H 1 (l.map aU) l.length sv
def cK{f:Type}(size:Nat)(R:ai->f->List AV->Prop)(H:ai)(l:List f)(sv:AV):Prop:=
 ∃a,Sl H size a l.length sv/\∀k(h:k<l.length),R H l[k] ((a.drop (k*size)).take size)
def b8{f e:Type}(R:ai->f->e->Prop):Prop:=∀{H g:ai}{a:f}{b:e},aZ H g->R H a b->R g a b
def nW(H:ai)(e:G.Edge)(cs:List AV):Prop:=∃v,cs=[aI e.block,v]/\fx H e.args v
def nX(H:ai)(s:G.dI)(cs:List AV):Prop:=∃v,cs=[aU s.op,aI s.to,v,aI s.n,aI s.m,.str s.i7]/\fx H s.args v
def mM(H:ai)(j:G.eV)(cs:List AV):Prop:=∃a b e,cs=[aU j.op,a,.str j.i7,b,e]/\fx H j.args a/\D4 H j.bp b/\cK 2 nW H j.go e
def i6(H:ai)(b:G.dE)(cs:List AV):Prop:=∃a e g,cs=a::e::g/\fx H b.i4 a/\cK 6 nX H b.aL e/\mM H b.aA g
def dS(H:ai)(g:G.aY)(cs:List AV):Prop:=∃a,cs=[.str g.i7,aI g.i4,aI g.aW,a]/\cK 7 i6 H g.aj a
theorem b8.ib{f:Type}{size:Nat}{R:ai->f->List AV->Prop}(a:b8 R):b8 (cK size R):=λg⟨b,h1,h2⟩=>⟨b,g.sl h1,λk h=>a g (h2 k h)⟩
theorem b8.D5:b8 nW:=λg⟨v,h1,h2⟩=>⟨v,h1,g.sl h2⟩
theorem b8.step:b8 nX:=λg⟨v,h1,h2⟩=>⟨v,h1,g.sl h2⟩
theorem b8.tn:b8 mM:=λg⟨a,b,e,h1,h2,h3,h⟩=>⟨a,b,e,h1,g.sl h2,g.sl h3,b8.D5.ib g h⟩
theorem b8.block:b8 i6:=λg⟨a,b,e,h1,h2,h3,h⟩=>⟨a,b,e,h1,g.sl h2,b8.step.ib g h3,b8.tn g h⟩
theorem b8.fY:b8 dS:=λg⟨a,h1,h2⟩=>⟨a,h1,b8.block.ib g h2⟩
variable{f:Type}{size n k:Nat}{R:ai->f->List AV->Prop}{H:ai}{la:List f}{sv:AV}
theorem cK.len(h:cK size R H la sv):lenOf sv=some la.length:=by obtain⟨a,h,_⟩:=h;exact h.len
theorem cK.bq(h:cK size R H la sv):sv.bq=true:=by obtain⟨a,h,_⟩:=h;exact h.bq
theorem cK.db(h:cK size R H la sv):sv.db=true:=by obtain⟨a,h,_⟩:=h;exact h.db
theorem cK.cells(h:cK size R H la sv):sv.cells=[sv]:=by obtain⟨a,h,_⟩:=h;exact h.cells
theorem cK.all(h:cK size R H la sv):sv.bq=true/\sv.db=true/\sv.cells=[sv]/\lenOf sv=some la.length:=⟨h.bq,h.db,h.cells,h.len⟩
theorem cK.at(h:cK size R H la sv)(g:k<la.length):∃q o cap ex cs,sv=.slice q o la.length cap ex/\R H la[k] cs/\cs.length=size/\(∀j v,cs[j]?=some v->bx H q (o+k*size+j)=some v)/\du H q (o+k*size) size=some cs:=by
 obtain⟨i,h1,h2⟩:=h;have hl:=h1.length;have a:k*size+size<=i.length:=by rw[hl,<-Nat.succ_mul];exact aeV _ g
 obtain⟨q,o,cap,ex,e,_,_,m,p⟩:=h1.at ab;refine⟨q,o,cap,ex,_,e,h2 k g,by rw[aeP,afF];omega,λj v hj=>?_,?_⟩
 .rw[List.getElem?_take]at hj;split at hj;·rw[List.getElem?_drop]at hj;obtain⟨b,e⟩:=ae7.1 hj;rw[afU,m _ b,e]
  cases hj
 exact p (k*size) size a
theorem nW.one{e:G.Edge}{cs:List AV}(h:nW H e cs):cE cs=true:=by obtain⟨v,rfl,h⟩:=h;exact ao rfl (ao h.db rfl)
theorem nX.one{e:G.dI}{cs:List AV}(h:nX H e cs):cE cs=true:=by obtain⟨v,rfl,h⟩:=h;exact ao rfl (ao rfl (ao h.db rfl))
theorem mM.one{e:G.eV}{cs:List AV}(h:mM H e cs):cE cs=true:=by obtain⟨a,b,g,rfl,h1,h2,h3⟩:=h;exact ao rfl (ao h1.db (ao rfl (ao h2.db (ao h3.db rfl))))
theorem i6.one{e:G.dE}{cs:List AV}(h:i6 H e cs):cE cs=true:=by obtain⟨a,b,g,rfl,h1,h2,h3⟩:=h;exact ao h1.db (ao h2.db h3.one)
theorem dS.one{e:G.aY}{cs:List AV}(h:dS H e cs):cE cs=true:=by obtain⟨v,rfl,h⟩:=h;exact ao rfl (ao rfl (ao rfl (ao h.db rfl)))
variable{ac:Nat->aX}{c:Cx}{s:List SI}{L:Kn}{d:Option af}{l:List bu}
theorem RO.bW{B:ai}(hg:aZ B H){x y:aK}{j kd:Nat}(hs:cK size R B la sv)(h:∀q o cs(hj:j<la.length),R B la[j] cs->cs.length=size->(∀t v,cs[t]?=some v->bx H q (o+t)=some v)->du H q o size=some cs->RO ac c l s (bj L d (.aD q o)) H)(g:aT L x=sv:=by exact cw)(m:aT L y=.int kd (.ofNat j):=by exact cw)(hj:j<la.length:=by first|assumption|omega):RO ac c (⟨d,.dO size x y,none,[],[]⟩::l) s L H:=by
 obtain⟨q,o,cap,ex,cs,rfl,h1,h2,h3,p⟩:=hs.at hj;have b:∀t,bx H q t=bx B q t/\du H q t size=du B q t size:=λt=>by
  obtain⟨u,r,_⟩:=hs;have a:q.az<B.next.az:=by
   rcases r with⟨h,_⟩|⟨i,_,_,_,_,_,_,_,_,_,h,_,_,_,_,hi,_⟩;·cases h
   injection h with h;subst h;exact hi
  exact⟨hg.bx a t,by simp only[du,hg.cM q a]⟩
 exact RO.dO (h q (o+j*size) cs hj h1 h2 (λt v e=>(b _).1.trans (h3 t v e)) ((b _).2.trans p)) g m hj
theorem RO.kZ{B:ai}(hg:aZ B H){a:List Int}{x y:aK}{j kd:Nat}(hs:fx B a sv)(h:∀q o(hj:j<a.length),bx H q o=some (aI a[j])->RO ac c l s (bj L d (.aD q o)) H)(e:aT L x=sv:=by exact cw)(g:aT L y=.int kd (.ofNat j):=by exact cw)(hj:j<a.length:=by first|assumption|omega):RO ac c (⟨d,.dO 1 x y,none,[],[]⟩::l) s L H:=RO.RP (hg.sl hs) (λq o z b i _=>h q o hj (by rw[getElem?_pos a j hj]at b;injection b with b;rw[i,b])) e g hj
theorem RO.iE{B:ai}(hg:aZ B H){m:f->AV}{x y:aK}{j kd:Nat}(hs:Sl B 1 (la.map m) la.length sv)(h:∀q o(hj:j<la.length),bx H q o=some (m la[j])->RO ac c l s (bj L d (.aD q o)) H)(b:aT L x=sv:=by exact cw)(e:aT L y=.int kd (.ofNat j):=by exact cw)(hj:j<la.length:=by first|assumption|omega):RO ac c (⟨d,.dO 1 x y,none,[],[]⟩::l) s L H:=RO.bW (R:=λ_ a cs=>cs=[m a]) hg ⟨_,hs,λk g=>by rw[af0,aeE (by simpa using g)];simp⟩ (λq o cs hj i _ hat _=>h q o hj (by subst i;exact hat 0 _ rfl)) b e hj
theorem RO.RT{B:ai}{p:List AV}{n e:Nat}{x y:aK}{b k:Nat}(hs:Sl B size p n sv)(h:∀a,Sl B size (p.take (b*size)) b a->RO ac c l s (bj L d a) H)(q:aT L x=sv:=by exact cw)(r:aT L y=.int k (.ofNat b):=by exact cw)(hb:b<=n:=by omega):RO ac c (⟨d,.gp e size x none (some y) none,none,[],[]⟩::l) s L H:=by
 rcases hs with⟨rfl,rfl,rfl⟩|⟨i,o,cap,ex,u,m,v,g,aM,fz,rfl,hg,A,hl,w,hi,t⟩;·have:b=0:=ab;subst this;refine RO.Az (m:=0) (b:=0) (a:=0) q rfl ?_ rfl (h _ (.inl ⟨rfl,rfl,aC⟩));simp only[jm,r];exact mK (aeq _)
 refine RO.gp (m:=cap) (b:=b) (a:=0) q rfl ?_ rfl aC ?_;·simp only[jm,r];exact mK ab
 have z:(if ex&&decide (cap=0)then o else o+0*size)=o:=by split<;>omega
 rw[z,ago,ago];have bH:b*size<=n*size:=aeV _ hb;refine h _ (.inr ⟨i,o,cap,_,u,m,v,g,aM,fz,rfl,hg,ab,?_,λj hj=>?_,hi,ab⟩);·rw[aeP];omega
 rw[aeP]at hj;rw[w j ab];simp
theorem RO.RU{r:List AV}{n e:Nat}{x y:aK}{b k o cap:Nat}{q:af}(hs:Sl H size r n (.slice q o n cap true))(h:∀a,Sl H size (r.drop (b*size)) (n - b) a->RO ac c l s (bj L d a) H)(v:aT L x=.slice q o n cap true:=by exact cw)(hy:aT L y=.int k (.ofNat b):=by exact cw)(hb:b<=n:=by omega):RO ac c (⟨d,.gp e size x (some y) none none,none,[],[]⟩::l) s L H:=by
 rcases hs with⟨h0,_⟩|⟨i,C,t,ex,w,m,z,g,aM,fz,h0,hg,D,hl,A,hi,u⟩;·cases h0
 injection h0 with h1 h2 _ h3 B;subst h1;subst h2;subst h3;subst B;refine RO.gp (m:=cap) (b:=n) (a:=b) v rfl (by simp[jm]) ?_ aC ?_;·simp only[jm,hy];exact mK hb
 have bH:b*size<=n*size:=aeV _ hb;refine h _ (.inr ⟨q,_,_,_,w,m,z,g,aM,fz,rfl,hg,?_,?_,λj hj=>?_,hi,ab⟩);·rw[Nat.sub_mul];split<;>omega
 .rw[afF,hl,Nat.sub_mul]
 rw[afF]at hj;split;·rename_i p;simp only[agj,decide_eq_true_eq]at p;have:b=n:=ab;subst this;omega
 rw[afU,A (b*size+j) ab];simp
theorem RO.RV{B:ai}{e:Nat}{x y:aK}{b k:Nat}(hs:cK size R B la sv)(h:∀a,cK size R B (la.take b) a->RO ac c l s (bj L d a) H)(i:aT L x=sv:=by exact cw)(j:aT L y=.int k (.ofNat b):=by exact cw)(hb:b<=la.length:=by omega):RO ac c (⟨d,.gp e size x none (some y) none,none,[],[]⟩::l) s L H:=by obtain⟨m,h1,h2⟩:=hs;refine RO.RT h1 (λa h3=>h a ⟨_,by rw[aeP,af7 hb];exact h3,λk g=>?_⟩) i j hb;rw[aeP,af7 hb]at g;have:=h2 k ab;rw[List.getElem_take,List.drop_take,List.take_take,af7 (by have:(k+1)*size<=b*size:=aeV _ g;rw[Nat.succ_mul]at this;omega)];exact this
def pk(M:Kn):List af->Kn
 |[]=>[]
 |p::l=>(p,lk M p)::pk M l
theorem Ru.nm{H:ai}(h:∀S M,S=s->M=L->Ru ac c S M H):Ru ac c s L H:=h s L rfl rfl
theorem iR.pk(M:Kn):∀a,iR (pk M a) M|[]=>trivial|_::l=>⟨rfl,iR.pk M l⟩
theorem iR.mN{M K:Kn}(h2:iR K M):∀{l:Kn},iR l M->iR (l++K) M|[],_=>h2|_::_,h=>⟨h.1,iR.mN h2 h.2⟩
theorem Ru.bM{M L ch:Kn}{a:List af}{H:ai}(b:M=L)(h:Ru ac c s (ch++pk M a) H)(hl:iR ch L:=by repeat'(first|exact trivial|refine⟨rfl,?_⟩)):Ru ac c s M H:=h.ph (iR.mN (iR.pk M a) (by rw[b];exact hl))
theorem Ru.wk{M:Kn}{H:ai}(h:Ru ac c s L H)(hl:iR L M:=by repeat'(first|exact trivial|refine⟨rfl,?_⟩)):Ru ac c s M H:=h.ph hl
end Go.ak
namespace Go.ak.R
section
open Go.ak Go.Proofs
abbrev bE(n:Nat):={a:aX//(Tryz.prog.funcs[n]?).bind (oS Tryz.prog)=some a}
abbrev AD:Program:={toTables:=Tryz.progTables,funcs:= #[]}
def po(n:Nat):Code->Option bg
 |.region _ o d=>do
  let l<-o.toList.mapM (nG AD n o)
  some (.region (if d then lV l (Region.before o) none [] (order l (Region.before o) o.size 0 [])else l))
 |.seq a b=>do
  let a<-po n a
  let b<-po n b
  some (match Ov.eF (.seq a b)with
   |some t=>.eF t
   |none=>.seq a b)
 |.cond c a b=>do some (.cond (<-eB AD n c) (<-po n a) (<-po n b))
 |.block i b=>(po n b).map (.block i)
 |.loop b=>(po n b).map .loop
 |.rangeFunc f p a b=>do some (.rangeFunc (<-eB AD n f) (p.toList.map af.cq) (<-po n a) (<-po n b))
 |.scope b=>po n b
 |.exit i=>some (.exit i)
 |.ret=>some .ret
 |_=>some .skip
def RW(f:Func):Option aX:=do some (.code f.ntmps (<-f.results.toList.mapM (uN AD f.ntmps)) (<-po f.ntmps (<-f.body)))
theorem RX(n:Nat): @OfNat.ofNat Int n (@instOfNat n)=afq (@OfNat.ofNat Nat n (instOfNatNat n)):=rfl
theorem RY(n:Nat): -afq (n+1)=Int.negSucc n:=rfl
theorem bF{a b:aX}{o:Option aX}(f:Func)(h:RW f=some a:=by cbv)(e:a=b:=by simp -failIfUnchanged only[RX,RY];rfl)(k:o=some b:=by kernel_rfl):o=some b:=k
end
end Go.ak.R
end
