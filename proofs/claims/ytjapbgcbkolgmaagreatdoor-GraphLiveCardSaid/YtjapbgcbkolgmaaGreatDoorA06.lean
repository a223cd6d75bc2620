/- A part. No conditions. -/
import Derived.Test.YtjapbgcbkolgmaaGreatDoorA05
import Derived.Test.YtjapbgcbkolgmaaGreatDoorProg
import Derived.KernelRfl
set_option linter.all false
open List renaming replicate->aeN
open Nat renaming beq->afw,blt->afR,ble->ago
open Int renaming ofNat->age
open Eq renaming mpr->ahm
noncomputable section
namespace Go.al
section
theorem cw{d:Type}{a b:d}(h:a=b:=by(conv=>lhs;whnf)<;>rfl):a=b:=h
theorem ey{p:Prop}(h:p:=by repeat'(first|exact trivial|refine⟨rfl,?_⟩)):p:=h
variable{ac:Nat->aX}
abbrev Kn:=List (af×AV)
def lk:Kn->af->AV
 |[],_=>.b9
 |(q,v)::l,p=>match af.beq q p with
  |true=>v
  |false=>lk l p
def Le(L:Kn)(aa:ak AV):Prop:=∀p v,lk L p=v->v=.b9\/aa.get .ahp p=v
def aW(L:Kn):aL->AV
 |.t p=>lk L p
 |.c v=>v
def bq(L:Kn)(d:Option af)(v:AV):Kn:=
 match d with
 |some p=>(p,v)::L
 |none=>L
theorem Le.get{L:Kn}{aa:ak AV}(h:Le L aa){p:af}{v:AV}(b:lk L p=v)(a:v.bC=true):aa.get .ahp p=v:=by
 rcases h p v b with e|e;·rw[e]at a;cases a
 exact e
theorem Le.gv{L:Kn}{aa:ak AV}(h:Le L aa){x:aL}{v:AV}(a:aW L x=v)(b:v.bC=true):gv aa x=v:=by cases x with|t p=>exact h.get a b|c w=>exact a
theorem Le.set{L:Kn}{aa:ak AV}(h:Le L aa)(d:Option af)(v:AV):Le (bq L d v) (aK aa d v):=by cases d with|none=>exact h|some p=>intro q w a;simp only[bq,aK,lk]at a⊢;rw[ak.aC];cases hb:af.beq p q with|true=>rw[hb]at a;rw[aJ (af.eS.1 hb).symm];exact .inr a|false=>rw[hb]at a;rw[ap λe=>by rw[e,af.eS.2 rfl]at hb;cases hb];exact h q w a
def iW:Kn->Kn->Prop
 |[],_=>True
 |(p,v)::l,m=>lk m p=v/\iW l m
theorem iW.get:∀{l m:Kn},iW l m->∀p v,lk l p=v->v=.b9\/lk m p=v|[],_,_,p,v,h=>.inl h.symm|(q,w)::l,m,h,p,v,a=>by simp only[lk]at a;cases hb:af.beq q p with|true=>rw[hb]at a;rw[<-af.eS.1 hb];exact .inr (h.1.trans a)|false=>rw[hb]at a;exact iW.get h.2 p v a
theorem Le.pv{L M:Kn}{aa:ak AV}(h:iW L M)(a:Le M aa):Le L aa:=λp v b=>by
 rcases h.get p v b with e|e;·exact .inl e
 exact a p v e
inductive SI where
 |code(c:bg)
 |bm(id:Nat)
structure Cx where
 K:bU->Fr->ah->Prop
 M:List af
 R:Option af
def iH(ac:Nat->aX)(K:bU->Fr->ah->Prop):List SI->bU->Fr->ah->Prop
 |[],j,fr,H=>K j fr H
 |.code c::s,j,fr,H=>match j with
  |.none=>∃n,Xc ac n c fr H (iH ac K s)
  |j=>iH ac K s j fr H
 |.bm id::s,j,fr,H=>match j with
  |.exit i=>if afw i id then iH ac K s .none fr H else iH ac K s (.exit i) fr H
  |j=>iH ac K s j fr H
def RJ(ac:Nat->aX)(c:Cx)(j:bU)(s:List SI)(L:Kn)(H:ah):Prop:=∀aa,Le L aa->iH ac c.K s j ⟨aa,c.M,c.R⟩ H
def Ru(ac:Nat->aX)(c:Cx)(s:List SI)(L:Kn)(H:ah):Prop:=RJ ac c .none s L H
def RO(ac:Nat->aX)(c:Cx)(l:List bA)(s:List SI)(L:Kn)(H:ah):Prop:=∀aa,Le L aa->∃n,Xo ac n l ⟨aa,c.M,c.R⟩ H (iH ac c.K s .none)
def YF(ac:Nat->aX)(f:AV)(args:List AV)(H:ah)(K:KT):Prop:=∃n,Xf ac n f args H K
abbrev YN(ac:Nat->aX)(f:Nat):=YF ac (.func f [] [])
variable{c:Cx}{s:List SI}{L:Kn}{H:ah}
theorem Ru.pv{M:Kn}(h:Ru ac c s L H)(hl:iW L M):Ru ac c s M H:=λaa a=>h aa (a.pv hl)
theorem YF.mono{f:AV}{args:List AV}{K a:KT}(h:YF ac f args H K)(b:∀v H,K v H->a v H):YF ac f args H a:=by obtain⟨n,h⟩:=h;exact⟨n,h.mono (adv _) b⟩
theorem jZ{n:Nat}{a:bg}{s:List SI}{b:bg}{fr:Fr}{K:bU->Fr->ah->Prop}(h:Xc ac n a fr H (iH ac K (.code b::s))):∃k,Xc ac k a fr H λj fr H=>match j with|.none=>Xc ac k b fr H (iH ac K s)|j=>iH ac K s j fr H:=by obtain⟨m,e⟩:=(wi ac n).exec (K:=λm j fr H=>match j with|.none=>Xc ac m b fr H (iH ac K s)|j=>iH ac K s j fr H) (λm f j fr H d hj=>by cases j with|none=>exact hj.mono d λ_ _ _ h=>h|exit i=>exact hj|ret=>exact hj) ((mono ac n).exec (adv _) (λj fr H hj=>by cases j with|none=>exact hj|exit i=>exact⟨0,hj⟩|ret=>exact⟨0,hj⟩) h);refine⟨max n m,(show Xc ac n a fr H _ from e).mono (Nat.le_max_left ..) λj fr H hj=>?_⟩;cases j with|none=>exact(show Xc ac m b fr H _ from hj).mono (Nat.le_max_right ..) λ_ _ _ h=>h|exit i=>exact hj|ret=>exact hj
theorem Ru.seq{a b:bg}(h:Ru ac c (.code a:: .code b::s) L H):Ru ac c (.code (.seq a b)::s) L H:=λaa d=>by obtain⟨n,e⟩:=h aa d;obtain⟨k,f⟩:=jZ e;exact⟨k+1,Xc.seq f⟩
theorem Ru.loop{b:bg}(h:Ru ac c (.code b:: .code (.loop b)::s) L H):Ru ac c (.code (.loop b)::s) L H:=λaa a=>by obtain⟨n,d⟩:=h aa a;obtain⟨k,e⟩:=jZ d;exact⟨k+1,Xc.loop e⟩
theorem Ru.region{l:List bA}(h:RO ac c l s L H):Ru ac c (.code (.region l)::s) L H:=λaa a=>by obtain⟨n,b⟩:=h aa a;exact⟨n+1,Xc.region b⟩
theorem Ru.skip(h:Ru ac c s L H):Ru ac c (.code .skip::s) L H:=λaa a=>⟨1,Xc.skip (h aa a)⟩
theorem Ru.block{id:Nat}{b:bg}(h:Ru ac c (.code b:: .bm id::s) L H):Ru ac c (.code (.block id b)::s) L H:=λaa a=>by obtain⟨n,d⟩:=h aa a;exact⟨n+1,Xc.block (d.mono (adv _) λj fr H hj=>by cases j<;>exact hj)⟩
theorem Ru.ph{x:aL}{a b:bg}(h:Ru ac c (.code a::s) L H)(e:aW L x=.bool true:=by exact cw):Ru ac c (.code (.cond x a b)::s) L H:=λaa d=>by obtain⟨n,f⟩:=h aa d;exact⟨n+1,Xc.ph (d.gv e rfl) f⟩
theorem Ru.mi{x:aL}{a b:bg}(h:Ru ac c (.code b::s) L H)(e:aW L x=.bool false:=by exact cw):Ru ac c (.code (.cond x a b)::s) L H:=λaa d=>by obtain⟨n,f⟩:=h aa d;exact⟨n+1,Xc.mi (d.gv e rfl) f⟩
theorem Ru.eE{x:aL}{a b:bg}{t:Bool}(h1:t=true->Ru ac c (.code a::s) L H)(h2:t=false->Ru ac c (.code b::s) L H)(d:aW L x=.bool t:=by exact cw):Ru ac c (.code (.cond x a b)::s) L H:=by cases t with|true=>exact Ru.ph (h1 rfl) d|false=>exact Ru.mi (h2 rfl) d
theorem Ru.cond{x:aL}{a b:bg}{p:Prop} [Decidable p](h1:p->Ru ac c (.code a::s) L H)(h2:¬p->Ru ac c (.code b::s) L H)(d:aW L x=.bool (decide p):=by exact cw):Ru ac c (.code (.cond x a b)::s) L H:=Ru.eE (λh=>h1 (of_decide_eq_true h)) (λh=>h2 (of_decide_eq_false h)) d
theorem Ru.exit{id:Nat}(h:RJ ac c (.exit id) s L H):Ru ac c (.code (.exit id)::s) L H:=λaa a=>⟨1,Xc.exit (h aa a)⟩
theorem Ru.ret(h:RJ ac c .ret s L H):Ru ac c (.code .ret::s) L H:=λaa a=>⟨1,Xc.ret (h aa a)⟩
theorem Ru.bm{id:Nat}(h:Ru ac c s L H):Ru ac c (.bm id::s) L H:=h
theorem RJ.code{a:bg}{i:Nat}(h:RJ ac c (.exit i) s L H):RJ ac c (.exit i) (.code a::s) L H:=h
theorem RJ.Cn{i:Nat}(h:Ru ac c s L H):RJ ac c (.exit i) (.bm i::s) L H:=λaa a=>by simp only[iH,agB,bf];exact h aa a
theorem RJ.TO{i id:Nat}(hi:afw i id=false)(h:RJ ac c (.exit i) s L H):RJ ac c (.exit i) (.bm id::s) L H:=λaa a=>by simp only[iH,hi,abe,bD];exact h aa a
theorem RJ.TP{a:bg}(h:RJ ac c .ret s L H):RJ ac c .ret (.code a::s) L H:=h
theorem RJ.TQ{id:Nat}(h:RJ ac c .ret s L H):RJ ac c .ret (.bm id::s) L H:=h
theorem RJ.rL:∀{s:List SI},RJ ac c .ret [] L H->RJ ac c .ret s L H|[],h=>h|.code _::_,h=>RJ.TP (RJ.rL h)|.bm _::_,h=>RJ.TQ (RJ.rL h)
def Af(i:Nat):List SI->Option (List SI)
 |[]=>none
 |.code _::s=>Af i s
 |.bm id::s=>if afw i id then some s else Af i s
theorem RJ.GO{i:Nat}:∀{s t:List SI},Af i s=some t->Ru ac c t L H->RJ ac c (.exit i) s L H
 |[],_,h,_=>by cases h
 |.code _::s,t,h,k=>RJ.code (RJ.GO h k)
 |.bm id::s,t,h,k=>by
  simp only[Af]at h;split at h;·rename_i e;rw[<-afo e];injection h with h;subst h;exact RJ.Cn k
  rename_i e;exact RJ.TO (by simpa only[Bool.not_eq_true]using e) (RJ.GO h k)
theorem Ru.exitTo{i:Nat}{t:List SI}(k:Ru ac c t L H)(h:Af i s=some t:=by rfl):Ru ac c (.code (.exit i)::s) L H:=Ru.exit (RJ.GO h k)
theorem RO.nil(h:Ru ac c s L H):RO ac c [] s L H:=λaa a=>⟨1,Xo.nil (h aa a)⟩
theorem RO.op{d:Option af}{op:bE}{l:List bA}{v:AV}{H':ah}(he:∀aa,Le L aa->aD op aa H=some (v,H'))(h:RO ac c l s (bq L d v) H'):RO ac c (⟨d,op,none,[],[]⟩::l) s L H:=λaa a=>by obtain⟨n,b⟩:=h _ (a.set d v);exact⟨n+1,Xo.op (he aa a) b⟩
theorem RO.call{d:Option af}{f:aL}{args:List aL}{l:List bA}{fv:AV}{e:List AV}(h:YF ac fv e H λv b=>RO ac c l s (bq L d v) b)(o:aW L f=fv:=by exact cw)(i:fv.bC=true:=by first|rfl|assumption)(p:args.map (aW L)=e:=by rfl)(j:e.all AV.bC=true:=by first|rfl|assumption):RO ac c (⟨d,.call f args,none,[],[]⟩::l) s L H:=λaa a=>by
 obtain⟨n,q⟩:=h;have k:args.map (gv aa)=e:=by subst p;refine agG λx r=>?_;exact a.gv rfl (agn.1 j _ (afI r))
 obtain⟨m,g⟩:=(wi ac n).call (K:=λm v b=>Xo ac m l ⟨aK aa d v,c.M,c.R⟩ b (iH ac c.K s .none)) (λm u v H g h=>h.mono g λ_ _ h=>h) ((mono ac n).call (adv _) (λv b t=>t _ (a.set d v)) q);refine⟨max n m+1,Xo.call ?_⟩;rw[a.gv o i,k];exact(show Xf ac n fv e H _ from g).mono (Nat.le_max_left ..) λv b h=>(show Xo ac m l _ b _ from h).mono (Nat.le_max_right ..) λ_ _ h=>h
def mV(a:List fR)(K:KT)(j:bU)(fr:Fr)(H:ah):Prop:=
 match j with
 |.exit _=>False
 |_=>match gZ H fr.br with
  |some H=>match ef fr.aa H a with
   |some l=>K (fL l) H
   |none=>False
  |none=>False
abbrev rM(a:List fR)(K:KT):Cx:=⟨mV a K,[],none⟩
theorem LR:∀(l:List AV)(p q:af)(t:ak AV),(iS l p t).get .ahp q=if p.am<=q.am/\q.am<p.am+l.length then l.getD (q.am - p.am) .ahp else t.get .ahp q
 |[],p,q,t=>by simp only[iS,List.length_nil];rw[ap ab]
 |v::l,p,q,t=>by
  simp only[iS];rw[LR l p.succ q (t.set .ahp p v),af.eI,ak.aC];simp only[afB];by_cases h1:p.am+1<=q.am/\q.am<p.am+1+l.length;·rw[aJ h1,aJ ab];rw[show q.am - p.am=(q.am - (p.am+1))+1 by omega];simp
  rw[ap h1];by_cases h2:q=p;·subst h2;rw[aJ rfl,aJ ab];simp
  rw[ap h2,ap];intro h3;exact h2 (af.pY ab)
def rN:List AV->Nat->Kn
 |[],_=>[]
 |v::l,k=>(af.cr k,v)::rN l (k+1)
theorem Le.rN:∀(l:List AV)(k:Nat)(aa:ak AV),(∀i(h:i<l.length),aa.get .ahp (af.cr (k+i))=l[i])->Le (rN l k) aa|[],_,_,_=>λp v h=>.inl h.symm|w::l,k,aa,h=>λp v a=>by simp only[Go.al.rN,lk]at a;cases hb:af.beq (af.cr k) p with|true=>rw[hb]at a;rw[<-af.eS.1 hb,<-a];exact .inr (h 0 aF)|false=>rw[hb]at a;exact Le.rN l (k+1) aa (λi hi=>by have:=h (i+1) (by simpa using hi);rw[show k+1+i=k+(i+1)by omega];simpa using this) p v a
theorem Le.args(l:List AV):Le (Go.al.rN l 0) (iS l .xH .aG):=Le.rN l 0 _ λi hi=>by rw[LR,af.jL,afC,aJ (by simp only[af.am];omega)];simp only[af.am,Nat.add_sub_cancel,afz,hi,getElem?_pos,af5]
theorem YF.code{f b:Nat}{d:List fR}{body:bg}{a as_ cs:List AV}{K:KT}(e:ac f=.code b d body)(hl:(a++as_++cs).length<=b)(h:Ru ac (rM d K) [.code body] (rN (a++as_++cs) 0) H):YF ac (.func f a cs) as_ H K:=by obtain⟨n,g⟩:=h _ (Le.args (a++as_++cs));refine⟨n+1,?_⟩;simp only[Xf,dT,e];rw[aJ (af8 hl)];refine Xc.mono (adv _) (λj fr H hj=>?_) g;cases j with|exit i=>exact hj|none=>exact hj|ret=>exact hj
theorem YF.gf{f:Nat}{g:List AV->ah->Option (AV×ah)}{a as_ cs:List AV}{v:AV}{H':ah}{K:KT}(b:ac f=.gf g)(hg:g (a++as_++cs) H=some (v,H'))(h:K v H'):YF ac (.func f a cs) as_ H K:=by refine⟨1,?_⟩;simp only[Xf,dT,b,hg];exact h
def tJ(L:Kn):List fR->List AV->Prop
 |[],[]=>True
 |.tmp p::a,v::b=>lk L p=v/\v.bC=true/\tJ L a b
 |_,_=>False
theorem tJ.tL{aa:ak AV}(a:Le L aa):∀{b:List fR}{d:List AV},tJ L b d->ef aa H b=some d|[],[],_=>rfl|.tmp p::b,v::d,h=>by simp only[ef,tJ.tL a h.2.2,afL,a.get h.1 h.2.1]|[],_::_,h=>h.elim|.tmp _::_,[],h=>h.elim|.cell .. ::_,[],h=>h.elim|.cell .. ::_,_::_,h=>h.elim
theorem RJ.aB{j:bU}{b:List fR}{K:KT}{vs:List AV}(hj:j=.none\/j=.ret)(d:tJ L b vs)(h:K (fL vs) H):RJ ac (rM b K) j [] L H:=λaa a=>by have:=d.tL (H:=H) a;rcases hj with rfl|rfl<;>simp only[iH,mV,gZ,this]<;>exact h
theorem Ru.aB{a:List fR}{K:KT}{vs:List AV}(b:tJ L a vs)(h:K (fL vs) H):Ru ac (rM a K) [] L H:=RJ.aB (.inl rfl) b h
theorem Ru.mW{a:List fR}{K:KT}{vs:List AV}{s:List SI}(b:tJ L a vs)(h:K (fL vs) H):Ru ac (rM a K) (.code .ret::s) L H:=Ru.ret (RJ.rL (RJ.aB (.inr rfl) b h))
theorem Ru.aP{p:af}{K:KT}{v:AV}{s:List SI}(h:K v H)(a:lk L p=v:=by exact cw)(hd:v.bC=true:=by first|rfl|assumption):Ru ac (rM [.tmp p] K) (.code .ret::s) L H:=Ru.mW (vs:=[v]) ⟨a,hd,trivial⟩ h
theorem Ru.mz{p q:af}{K:KT}{v w:AV}{s:List SI}(h:K (.tuple [v,w]) H)(d:lk L p=v:=by exact cw)(hd:v.bC=true:=by first|rfl|assumption)(a:lk L q=w:=by exact cw)(b:w.bC=true:=by first|rfl|assumption):Ru ac (rM [.tmp p,.tmp q] K) (.code .ret::s) L H:=Ru.mW (vs:=[v,w]) ⟨d,hd,a,b,trivial⟩ h
end
end Go.al
namespace Go.al.R
structure Kp(Q:Prop):Prop where
 q:Q
theorem GP{P Q:Prop}(k:Q)(h:Kp Q->P:=by intro k;(first|refine RO.aR ?_|refine RO.iQ ?_|refine RO.TR ?_|refine RO.lss ?_|refine RO.nil ?_|refine Ru.skip ?_|refine Ru.bm ?_|refine RO.TS ?_|refine RO.neq ?_|refine RO.TT ?_|refine RO.eql ?_|refine RO.TU ?_|refine RO.gtr ?_|refine RO.TV ?_|refine RO.geq ?_|refine RO.TW ?_|refine RO.leq ?_|refine RO.TX ?_|refine RO.bi ?_|refine RO.gR ?_|refine RO.extract ?_|refine RO.un ?_|refine RO.part ?_|refine RO.jd ?_|refine RO.build ?_|refine RO.mK ?_|refine RO.pP ?_|refine Ru.ph ?_|refine Ru.mi ?_|refine RO.Ag ?_|refine RO.LS ?_);exact k.1):P:=h ⟨k⟩
theorem LU{P Q:Prop}(k:Q)(h:Kp Q->P:=by intro k;(first|refine GP ?_|refine RO.LW ?_|refine RO.ch ?_|refine RO.sK ?_|refine RO.GQ ?_|refine RO.GR ?_|refine RO.iC U 0 ?_|refine RO.iC U 1 ?_|refine RO.iC U 2 ?_|refine RO.iC U 3 ?_|refine RO.iC U 4 ?_|refine RO.bi ?_ (hc:=hat _ _ rfl)|refine RO.gR ?_ (hc:=hrd)|refine RO.lE ?_|refine RO.nJ ?_|refine RO.nilCheck ?_|refine RO.Co ?_|refine RO.LX ?_);exact k.1):P:=h ⟨k⟩
theorem mf{P Q:Prop}(k:Q)(h:Kp Q->P:=by intro k;(first|refine Ru.region ?_|refine Ru.seq ?_|refine Ru.block ?_|refine LU ?_);exact k.1):P:=h ⟨k⟩
theorem au{P Q:Prop}(k:Q)(h:Kp Q->P:=by intro k;(repeat(first|refine Ru.region ?_|refine Ru.seq ?_|refine Ru.block ?_|refine GP ?_));exact k.1):P:=h ⟨k⟩
theorem aV{P Q:Prop}(k:Q)(h:Kp Q->P:=by intro k;(repeat(first|refine Ru.region ?_|refine Ru.seq ?_|refine Ru.block ?_|refine GP ?_|refine RO.LW ?_|refine RO.ch ?_|refine RO.sK ?_|refine RO.GQ ?_|refine RO.GR ?_|refine RO.iC U 0 ?_|refine RO.iC U 1 ?_|refine RO.iC U 2 ?_|refine RO.iC U 3 ?_|refine RO.iC U 4 ?_|refine RO.bi ?_ (hc:=hat _ _ rfl)|refine RO.gR ?_ (hc:=hrd)|refine RO.lE ?_|refine RO.nJ ?_));exact k.1):P:=h ⟨k⟩
theorem ai{P Q:Prop}(k:Q)(h:Kp Q->P:=by intro k;(repeat refine mf ?_);exact k.1):P:=h ⟨k⟩
theorem eF{P Q:Prop}(k:Q)(h:Kp Q->P:=by intro k;(repeat refine LU ?_);exact k.1):P:=h ⟨k⟩
theorem au8{P Q:Prop}(k:Q)(h:Kp Q->P:=by intro k;(repeat(first|refine RO.neqS ?_|refine RO.strS ?_|refine mf ?_));exact k.1):P:=h ⟨k⟩
end Go.al.R
namespace Go.al
section
variable{ac:Nat->aX}{c:Cx}{s:List SI}{L:Kn}{H:ah}{d:Option af}{l:List bA}
theorem TY{k:Nat}{n:Int}(h:(ck k).wrap n=n):fG k n=n:=by
 unfold fG;split
 .split;·rfl
  exact h
 .split;·rfl
  exact h
 .split;·rfl
  exact h
 exact h
theorem mA{n:Int}(h1: -9223372036854775808<=n)(h2:n<9223372036854775808):fG 3 n=n:=by cases n with|ofNat m=>rw[afm]at h2;have:afR m 9223372036854775808=true:=ahm agh ab;simp only[fG,this,bf]|negSucc m=>have:afR m 9223372036854775808=true:=ahm agh ab;simp only[fG,this,bf]
theorem RO.aR{x:aL}{v:AV}(h:RO ac c l s (bq L d v) H)(b:aW L x=v:=by exact cw)(e:v.bC=true:=by first|rfl|assumption):RO ac c (⟨d,.aR x,none,[],[]⟩::l) s L H:=RO.op (λaa a=>by simp only[aD,a.gv b e]) h
theorem RO.arith{op:BinOp}{k:Nat}{x y:aL}{a b:Int}{v:AV}(h:RO ac c l s (bq L d v) H)(f:aW L x=.int k a:=by exact cw)(g:aW L y=.int k b:=by exact cw)(hv:eR op k a b=some v:=by exact cw):RO ac c (⟨d,.arith op k x y,none,[],[]⟩::l) s L H:=RO.op (λaa e=>by simp only[aD,e.gv f rfl,e.gv g rfl,sN,agB,ahj,bf,hv,afL]) h
theorem RO.add{x y:aL}{a b:Int}(h:RO ac c l s (bq L d (.int 3 (a+b))) H)(e:aW L x=.int 3 a:=by exact cw)(f:aW L y=.int 3 b:=by exact cw)(h1: -9223372036854775808<=a+b:=by omega)(h2:a+b<9223372036854775808:=by omega):RO ac c (⟨d,.arith .add 3 x y,none,[],[]⟩::l) s L H:=RO.arith h e f (by simp only[eR,mA h1 h2])
theorem RO.TX{x:aL}{a b:Nat}{y:aL}(h:RO ac c l s (bq L d (.int 3 (.ofNat (a+b)))) H)(e:aW L x=.int 3 (.ofNat a):=by exact cw)(f:aW L y=.int 3 (.ofNat b):=by exact cw)(h2:a+b<9223372036854775808:=by omega):RO ac c (⟨d,.arith .add 3 x y,none,[],[]⟩::l) s L H:=RO.add (a:=.ofNat a) (b:=.ofNat b) h e f (by simp;omega) (by simp;omega)
theorem RO.sub{x y:aL}{a b:Int}(h:RO ac c l s (bq L d (.int 3 (a - b))) H)(e:aW L x=.int 3 a:=by exact cw)(f:aW L y=.int 3 b:=by exact cw)(h1: -9223372036854775808<=a - b:=by omega)(h2:a - b<9223372036854775808:=by omega):RO ac c (⟨d,.arith .sub 3 x y,none,[],[]⟩::l) s L H:=RO.arith h e f (by simp only[eR,mA h1 h2])
theorem RO.eql{k:Nat}{x y:aL}{a b:Int}(h:RO ac c l s (bq L d (.bool (decide (a=b)))) H)(e:aW L x=.int k a:=by exact cw)(f:aW L y=.int k b:=by exact cw):RO ac c (⟨d,.arith .eql k x y,none,[],[]⟩::l) s L H:=RO.arith h e f (by simp only[eR,eT];congr 2)
theorem RO.neq{k:Nat}{x y:aL}{a b:Int}(h:RO ac c l s (bq L d (.bool (decide (a≠b)))) H)(e:aW L x=.int k a:=by exact cw)(f:aW L y=.int k b:=by exact cw):RO ac c (⟨d,.arith .neq k x y,none,[],[]⟩::l) s L H:=RO.arith h e f (by simp only[eR,eT];congr 2;rw[agp];simp)
theorem RO.lss{k:Nat}{x y:aL}{a b:Int}(h:RO ac c l s (bq L d (.bool (decide (a<b)))) H)(e:aW L x=.int k a:=by exact cw)(f:aW L y=.int k b:=by exact cw):RO ac c (⟨d,.arith .lss k x y,none,[],[]⟩::l) s L H:=RO.arith h e f (by simp only[eR,lP])
theorem RO.leq{k:Nat}{x y:aL}{a b:Int}(h:RO ac c l s (bq L d (.bool (decide (a<=b)))) H)(e:aW L x=.int k a:=by exact cw)(f:aW L y=.int k b:=by exact cw):RO ac c (⟨d,.arith .leq k x y,none,[],[]⟩::l) s L H:=RO.arith h e f (by simp only[eR,lP];congr 2;rw[agp];simp)
theorem RO.gtr{k:Nat}{x y:aL}{a b:Int}(h:RO ac c l s (bq L d (.bool (decide (b<a)))) H)(e:aW L x=.int k a:=by exact cw)(f:aW L y=.int k b:=by exact cw):RO ac c (⟨d,.arith .gtr k x y,none,[],[]⟩::l) s L H:=RO.arith h e f (by simp only[eR,lP])
theorem RO.geq{k:Nat}{x y:aL}{a b:Int}(h:RO ac c l s (bq L d (.bool (decide (b<=a)))) H)(e:aW L x=.int k a:=by exact cw)(f:aW L y=.int k b:=by exact cw):RO ac c (⟨d,.arith .geq k x y,none,[],[]⟩::l) s L H:=RO.arith h e f (by simp only[eR,lP];congr 2;rw[agp];simp)
theorem RO.TR{k:Nat}{x y:aL}{a b:Nat}(h:RO ac c l s (bq L d (.bool (decide (a<b)))) H)(e:aW L x=.int k (.ofNat a):=by exact cw)(f:aW L y=.int k (.ofNat b):=by exact cw):RO ac c (⟨d,.arith .lss k x y,none,[],[]⟩::l) s L H:=RO.lss (a:=.ofNat a) (b:=.ofNat b) (by simpa using h) e f
theorem RO.TW{k:Nat}{x y:aL}{a b:Nat}(h:RO ac c l s (bq L d (.bool (decide (a<=b)))) H)(e:aW L x=.int k (.ofNat a):=by exact cw)(f:aW L y=.int k (.ofNat b):=by exact cw):RO ac c (⟨d,.arith .leq k x y,none,[],[]⟩::l) s L H:=RO.leq (a:=.ofNat a) (b:=.ofNat b) (by simpa using h) e f
theorem RO.TU{k:Nat}{x y:aL}{a b:Nat}(h:RO ac c l s (bq L d (.bool (decide (b<a)))) H)(e:aW L x=.int k (.ofNat a):=by exact cw)(f:aW L y=.int k (.ofNat b):=by exact cw):RO ac c (⟨d,.arith .gtr k x y,none,[],[]⟩::l) s L H:=RO.gtr (a:=.ofNat a) (b:=.ofNat b) (by simpa using h) e f
theorem RO.TV{k:Nat}{x y:aL}{a b:Nat}(h:RO ac c l s (bq L d (.bool (decide (b<=a)))) H)(e:aW L x=.int k (.ofNat a):=by exact cw)(f:aW L y=.int k (.ofNat b):=by exact cw):RO ac c (⟨d,.arith .geq k x y,none,[],[]⟩::l) s L H:=RO.geq (a:=.ofNat a) (b:=.ofNat b) (by simpa using h) e f
theorem RO.TT{k:Nat}{x y:aL}{a b:Nat}(h:RO ac c l s (bq L d (.bool (decide (a=b)))) H)(e:aW L x=.int k (.ofNat a):=by exact cw)(f:aW L y=.int k (.ofNat b):=by exact cw):RO ac c (⟨d,.arith .eql k x y,none,[],[]⟩::l) s L H:=RO.eql (a:=.ofNat a) (b:=.ofNat b) (by rw[show decide (age a=age b)=decide (a=b)from decide_eq_decide.2 ⟨λh=>Int.ofNat.inj h,λh=>congrArg _ h⟩];exact h) e f
theorem RO.TS{k:Nat}{x y:aL}{a b:Nat}(h:RO ac c l s (bq L d (.bool (decide (a≠b)))) H)(f:aW L x=.int k (.ofNat a):=by exact cw)(g:aW L y=.int k (.ofNat b):=by exact cw):RO ac c (⟨d,.arith .neq k x y,none,[],[]⟩::l) s L H:=RO.neq (a:=.ofNat a) (b:=.ofNat b) (by rw[show decide (age a≠age b)=decide (a≠b)from decide_eq_decide.2 ⟨λh e=>h (congrArg _ e),λh e=>h (Int.ofNat.inj e)⟩];exact h) f g
theorem RO.un{op:UnOp}{x:aL}{w v:AV}(h:RO ac c l s (bq L d v) H)(b:aW L x=w:=by exact cw)(e:w.bC=true:=by first|rfl|assumption)(f:uK op w=some v:=by exact cw):RO ac c (⟨d,.unary op x,none,[],[]⟩::l) s L H:=RO.op (λaa a=>by simp only[aD,a.gv b e,f,afL]) h
theorem RO.eq{neg:Bool}{e:cZ}{x y:aL}{a b:AV}{t:Bool}(h:RO ac c l s (bq L d (.bool (t !=neg))) H)(g:aW L x=a:=by exact cw)(i:a.bC=true:=by first|rfl|assumption)(j:aW L y=b:=by exact cw)(hb:b.bC=true:=by first|rfl|assumption)(ht:cQ 64 e a b=some t:=by first|assumption|rfl):RO ac c (⟨d,.eq neg e x y,none,[],[]⟩::l) s L H:=RO.op (λaa f=>by simp only[aD,f.gv g i,f.gv j hb,ht,afL]) h
theorem RO.bi{x:aL}{i:af}{o:Nat}{v:AV}(h:RO ac c l s (bq L d v) H)(hx:aW L x=.aE i o:=by exact cw)(hc:bx H i o=some v:=by assumption):RO ac c (⟨d,.bi x,none,[],[]⟩::l) s L H:=RO.op (λaa a=>gX (a.gv hx rfl) hc) h
theorem RO.gR{n:Nat}{x:aL}{i:af}{o:Nat}{vs:List AV}(h:RO ac c l s (bq L d (.agg vs)) H)(hx:aW L x=.aE i o:=by exact cw)(hc:dK H i o n=some vs:=by assumption):RO ac c (⟨d,.gR n x,none,[],[]⟩::l) s L H:=RO.op (λaa a=>by simp only[aD,a.gv hx rfl,gF,hc,bf,afL]) h
theorem RO.store{n:Nat}{a x:aL}{i:af}{o:Nat}{v:AV}{e:ah}(f:fS H i o v.cells=some e)(h:RO ac c l s (bq L d .ahp) e)(g:aW L a=.aE i o:=by exact cw)(j:aW L x=v:=by exact cw)(k:v.bC=true:=by first|rfl|assumption)(m:v.cells.length=n:=by rfl):RO ac c (⟨d,.store n a x,none,[],[]⟩::l) s L H:=RO.op (λaa b=>by simp only[aD,b.gv g rfl,b.gv j k,m,bf,f]) h
theorem RO.ch{size:Nat}{x y:aL}{i:af}{o n b j k:Nat}{e:Bool}(h:RO ac c l s (bq L d (.aE i (o+j*size))) H)(f:aW L x=.slice i o n b e:=by exact cw)(g:aW L y=.int k (.ofNat j):=by exact cw)(hj:j<n:=by omega):RO ac c (⟨d,.ch size x y,none,[],[]⟩::l) s L H:=RO.op (λaa a=>by have:afR j n=true:=ahm agh hj;simp only[aD,a.gv f rfl,a.gv g rfl,this,bf]) h
theorem RO.sL{agg:Bool}{m size:Nat}{x y:aL}{b:List AV}{j k:Nat}{v:AV}(h:RO ac c l s (bq L d v) H)(e:aW L x=.agg b:=by exact cw)(f:aW L y=.int k (.ofNat j):=by exact cw)(hj:j<m:=by first|decide|omega)(g:mM agg b (j*size) size=some v:=by exact cw):RO ac c (⟨d,.sL agg m size x y,none,[],[]⟩::l) s L H:=RO.op (λaa a=>by have:afR j m=true:=ahm agh hj;simp only[aD,a.gv e rfl,a.gv f rfl,this,bf,g,afL]) h
theorem RO.jd{off:Nat}{x:aL}{i:af}{o:Nat}(h:RO ac c l s (bq L d (.aE i (o+off))) H)(b:aW L x=.aE i o:=by exact cw):RO ac c (⟨d,.jd off x,none,[],[]⟩::l) s L H:=RO.op (λaa a=>by simp only[aD,a.gv b rfl]) h
theorem RO.part{agg:Bool}{off size:Nat}{x:aL}{b:List AV}{v:AV}(h:RO ac c l s (bq L d v) H)(e:aW L x=.agg b:=by exact cw)(f:mM agg b off size=some v:=by exact cw):RO ac c (⟨d,.part agg off size x,none,[],[]⟩::l) s L H:=RO.op (λaa a=>by simp only[aD,a.gv e rfl,f,afL]) h
theorem RO.extract{x:aL}{i:Nat}{b:List AV}{v:AV}(h:RO ac c l s (bq L d v) H)(e:aW L x=.tuple b:=by exact cw)(f:kZ b i=some v:=by exact cw):RO ac c (⟨d,.extract x i,none,[],[]⟩::l) s L H:=RO.op (λaa a=>by simp only[aD,a.gv e rfl,f,afL]) h
def lenOf:AV->Option Nat
 |.slice _ _ n _ _=>some n
 |.aH=>some 0
 |_=>none
theorem RO.iQ{x:aL}{v:AV}{n:Nat}(h:RO ac c l s (bq L d (.int 3 (.ofNat n))) H)(e:aW L x=v:=by exact cw)(a:lenOf v=some n:=by first|rfl|assumption):RO ac c (⟨d,.iQ x,none,[],[]⟩::l) s L H:=RO.op (λaa b=>by
 have hd:v.bC=true:=by cases v<;>first|rfl|cases a
 simp only[aD,b.gv e hd];cases v<;>simp only[lenOf,aaM,reduceCtorEq]at a<;>subst a<;>rfl) h
theorem RO.qW{n:Nat}(h:RO ac c l s (bq L d (.int 3 (.ofNat n))) H):RO ac c (⟨d,.qW n,none,[],[]⟩::l) s L H:=RO.op (λaa a=>by simp only[aD]) h
theorem RO.box{e:Nat}{x:aL}{v:AV}(h:RO ac c l s (bq L d (.aE H.next 0)) (H.new (.cells (bX v.cells) v.cells.length e true [] 0)))(b:aW L x=v:=by exact cw)(f:v.bC=true:=by first|rfl|assumption)(g:cL v.cells=true:=by rfl):RO ac c (⟨d,.box e x,none,[],[]⟩::l) s L H:=RO.op (λaa a=>by simp only[aD,a.gv b f,g,bf]) h
theorem RO.alloc{e:Nat}{a:List AV}(h:RO ac c l s (bq L d (.aE H.next 0)) (H.new (.cells (bX a) a.length e true [] 0))):RO ac c (⟨d,.alloc e a,none,[],[]⟩::l) s L H:=RO.op (λaa b=>by simp only[aD]) h
def mB(L:Kn)(l:List AV):List (Nat×Nat×aL)->Option (List AV)
 |[]=>some l
 |(off,size,x)::a=>
  let b:=(aW L x).cells
  if(aW L x).bC&&decide (b.length=size)then(match nN l off b with|some e=>mB L e a|none=>none)else none
theorem GS{aa:ak AV}(a:Le L aa):∀{i:List (Nat×Nat×aL)}{f g:List AV},mB L f i=some g->kE aa f i=some g
 |[],f,g,h=>by simpa[mB,kE]using h
 |(off,size,x)::k,f,g,h=>by
  simp only[mB]at h;split at h
  .rename_i j;have b:=j;simp only[ae9]at b;have e:=a.gv (x:=x) rfl b.1;simp only[kE];rw[e,aJ j];split at h;·rename_i h2;rw[h2];exact GS a h
   cases h
  cases h
theorem RO.build{b vs:List AV}{e:List (Nat×Nat×aL)}(h:RO ac c l s (bq L d (.agg vs)) H)(hl:mB L b e=some vs:=by exact cw):RO ac c (⟨d,.build b e,none,[],[]⟩::l) s L H:=RO.op (λaa a=>by simp only[aD,GS a hl,afL]) h
theorem RO.buildSlice{e n:Nat}{b vs:List AV}{f:List (Nat×Nat×aL)}(h:RO ac c l s (bq L d (.slice H.next 0 n n true)) (H.new (.cells (bX vs) vs.length e true [] 0)))(hl:mB L (eo b n) f=some vs:=by exact cw)(g:cL vs=true:=by rfl):RO ac c (⟨d,.buildSlice e n b f,none,[],[]⟩::l) s L H:=RO.op (λaa a=>by simp only[aD,GS a hl,g,bf]) h
theorem RO.mK{f:Nat}{a b:List aL}{g j:List AV}(h:RO ac c l s (bq L d (.func f g j)) H)(k:a.map (aW L)=g:=by rfl)(i:g.all AV.bC=true:=by rfl)(hb:b.map (aW L)=j:=by rfl)(m:j.all AV.bC=true:=by rfl):RO ac c (⟨d,.mK f a b,none,[],[]⟩::l) s L H:=RO.op (λaa n=>by
 have e:∀{a:List aL}{g:List AV},a.map (aW L)=g->g.all AV.bC=true->a.map (gv aa)=g:=λ{a g}k i=>by subst k;exact agG λx o=>n.gv rfl (agn.1 i _ (afI o))
 simp only[aD,e k i,e hb m]) h
theorem RO.jo(h:RO ac c l s (bq L d (.map H.next)) (H.new (.map [] 0))):RO ac c (⟨d,.jo,none,[],[]⟩::l) s L H:=RO.op (λaa a=>by simp only[aD]) h
theorem RO.pP{t:Nat}{x:aL}{v:AV}(h:RO ac c l s (bq L d (.iface t v)) H)(b:aW L x=v:=by exact cw)(e:v.bC=true:=by first|rfl|assumption):RO ac c (⟨d,.pP t x,none,[],[]⟩::l) s L H:=RO.op (λaa a=>by simp only[aD,a.gv b e]) h
theorem RO.nI{e bytes size:Nat}{b:List AV}{x y:aL}{n k:Nat}(h:RO ac c l s (bq L d (.slice H.next 0 n k true)) (H.new (.cells (bX (eo b k)) (k*size) e true [] 0)))(f:aW L x=.int 3 (.ofNat n):=by exact cw)(g:aW L y=.int 3 (.ofNat k):=by exact cw)(i:n<=k:=by omega)(hb:k*bytes<=70368744177664:=by omega)(j:k<=70368744177664:=by omega):RO ac c (⟨d,.nI e bytes size b x y,none,[],[]⟩::l) s L H:=RO.op (λaa a=>by
 have h1:(ago n k&&dH (k*bytes)&&dH k)=true:=by simp only[dH,ae9];exact⟨⟨af8 i,af8 hb⟩,af8 j⟩
 simp only[aD,a.gv f rfl,a.gv g rfl,h1,bf]) h
theorem RO.append{e bytes size:Nat}{j:List AV}{x y:aL}{b f:AV}{n:Nat}{i:List AV}{r:AV×ah}(k:gh H size f=some (n,i))(m:iR e bytes size H b n i=some r)(h:RO ac c l s (bq L d r.1) r.2)(o:aW L x=b:=by exact cw)(hs:b.bC=true:=by first|rfl|assumption)(p:aW L y=f:=by exact cw)(g:f.bC=true:=by first|rfl|assumption):RO ac c (⟨d,.append e bytes size j false x y,none,[],[]⟩::l) s L H:=RO.op (λaa a=>by simp only[aD,abe,bD,a.gv o hs,a.gv p g,k,m]) h
theorem RO.nilCheck{x:aL}{v:AV}(h:RO ac c l s (bq L d v) H)(e:aW L x=v:=by exact cw)(b:(match v with|.aE .. |.func .. |.yield _|.iface .. |.map _|.slice .. =>true|_=>false)=true:=by first|rfl|assumption):RO ac c (⟨d,.nilCheck x,none,[],[]⟩::l) s L H:=RO.op (λaa a=>by
 have hd:v.bC=true:=by cases v<;>first|rfl|cases b
 simp only[aD,a.gv e hd];cases v<;>first|rfl|cases b) h
theorem RO.nK{a:Bool}{f:List aL}{v r:AV}{b:List AV}(h:RO ac c l s (bq L d r) H)(j:f.map (aW L)=v::b:=by rfl)(hd:(v::b).all AV.bC=true:=by first|rfl|assumption)(hr:uL a v b=some r:=by exact cw):RO ac c (⟨d,.nK a f,none,[],[]⟩::l) s L H:=RO.op (λaa g=>by
 have e:f.map (gv aa)=v::b:=by rw[<-j];refine agG λx i=>g.gv rfl ?_;rw[<-j]at hd;exact agn.1 hd _ (afI i)
 simp only[aD,e,hr,afL]) h
def iI(L:Kn)(x:Option aL)(d y:Nat):Option Nat:=
 match x with
 |some x=>l9 (aW L x) y
 |none=>some d
theorem qD{aa:ak AV}(a:Le L aa){x:Option aL}{d y n:Nat}(h:iI L x d y=some n):gS aa x d y=some n:=by cases x with|none=>exact h|some x=>simp only[iI]at h;simp only[gS];rw[a.gv (x:=x) rfl (by cases hg:aW L x<;>rw[hg]at h<;>first|rfl|cases h)];exact h
theorem RO.gD{e size:Nat}{x:aL}{lo hi g:Option aL}{i:af}{o n j:Nat}{ex:Bool}{a b m:Nat}(k:aW L x=.slice i o n j ex)(p:iI L g j j=some m)(hb:iI L hi n m=some b)(q:iI L lo 0 b=some a)(he:(ex||g.isSome||lo.isNone||oT H i e)=true)(h:RO ac c l s (bq L d (.slice i (if ex&&decide (m=a)then o else o+a*size) (b - a) (m - a) (ex||g.isSome))) H):RO ac c (⟨d,.gD e size x lo hi g,none,[],[]⟩::l) s L H:=RO.op (λaa f=>by simp only[aD,f.gv k rfl,qD f p,qD f hb,qD f q,acC,agH,he,bf]) h
theorem RO.Cp{e size:Nat}{x:aL}{lo hi g:Option aL}{a b m:Nat}(i:aW L x=.aH)(j:iI L g 0 0=some m)(hb:iI L hi 0 m=some b)(k:iI L lo 0 b=some a)(h:RO ac c l s (bq L d .aH) H):RO ac c (⟨d,.gD e size x lo hi g,none,[],[]⟩::l) s L H:=RO.op (λaa f=>by simp only[aD,f.gv i rfl,qD f j,qD f hb,qD f k,acC,agH]) h
theorem RO.qU{n size:Nat}{x:aL}{lo hi f:Option aL}{i:af}{o a b m:Nat}(g:aW L x=.aE i o)(j:iI L f n n=some m)(hb:iI L hi n m=some b)(k:iI L lo 0 b=some a)(h:RO ac c l s (bq L d (.slice i (if m=a then o else o+a*size) (b - a) (m - a) true)) H):RO ac c (⟨d,.qU n size x lo hi f,none,[],[]⟩::l) s L H:=RO.op (λaa e=>by simp only[aD,e.gv g rfl,qD e j,qD e hb,qD e k,acC,agH]) h
theorem RO.jT{k m:Nat}{x:aL}{a:Int}(h:RO ac c l s (bq L d (.int k (fG k a))) H)(e:aW L x=.int m a:=by exact cw):RO ac c (⟨d,.jT k x,none,[],[]⟩::l) s L H:=RO.op (λaa b=>by simp only[aD,b.gv e rfl]) h
theorem RO.copy{size:Nat}{x y:aL}{i:af}{o n j:Nat}{ex:Bool}{b:AV}{m:Nat}{f:List AV}{g:ah}(k:aW L x=.slice i o n j ex)(p:aW L y=b)(e:b.bC=true)(q:gh H size b=some (m,f))(r:min m n≠0)(t:fS H i o (f.take (min m n*size))=some g)(h:RO ac c l s (bq L d (.int 3 (.ofNat (min m n)))) g):RO ac c (⟨d,.copy size x y,none,[],[]⟩::l) s L H:=RO.op (λaa a=>by simp only[aD,a.gv k rfl,a.gv p e,q,ap r,t]) h
theorem RO.LY{size:Nat}{x y:aL}{xv b:AV}{m:Nat}{f:List AV}(g:aW L x=xv)(i:aW L y=b)(e:b.bC=true)(j:gh H size b=some (m,f))(k:∃n,lenOf xv=some n/\min m n=0)(h:RO ac c l s (bq L d (.int 3 (.ofNat 0))) H):RO ac c (⟨d,.copy size x y,none,[],[]⟩::l) s L H:=RO.op (λaa a=>by
 obtain⟨n,h1,h2⟩:=k;have hd:xv.bC=true:=by cases xv<;>first|rfl|cases h1
 simp only[aD,a.gv g hd,a.gv i e,j];cases xv<;>simp only[lenOf,aaM,reduceCtorEq]at h1;·subst h1;simp only[h2,bf]
 rfl) h
theorem RO.typeAssert{t u:Nat}{zero:AV}{x:aL}{v:AV}(b:aW L x=.iface u v)(hu:afw u t=true)(h:RO ac c l s (bq L d v) H):RO ac c (⟨d,.typeAssert t zero false x,none,[],[]⟩::l) s L H:=RO.op (λaa a=>by simp only[aD,a.gv b rfl,hu,bf,abe,bD]) h
theorem RO.lE{op:BinOp}{x y:aL}{a b:AV}{v:AV}(h:RO ac c l s (bq L d v) H)(f:aW L x=a:=by exact cw)(g:a.bC=true:=by first|rfl|assumption)(i:aW L y=b:=by exact cw)(hb:b.bC=true:=by first|rfl|assumption)(j:ze op a b=some v:=by exact cw):RO ac c (⟨d,.lE op x y,none,[],[]⟩::l) s L H:=RO.op (λaa e=>by simp only[aD,e.gv f g,e.gv i hb,j,afL]) h
theorem RO.nJ{x:aL}{t:List Nat}(h:RO ac c l s (bq L d (.int 3 (.ofNat t.length))) H)(b:aW L x=.str t:=by exact cw):RO ac c (⟨d,.nJ x,none,[],[]⟩::l) s L H:=RO.op (λaa a=>by simp only[aD,a.gv b rfl]) h
theorem RO.LS{op:bE}{g:af}{w b:Bool}{hd:List af}{re:List gE}(h:RO ac c l s (bq L d .ahp) H)(hg:aW L (.t g)=.bool b:=by exact cw)(hb:b≠w:=by decide):RO ac c (⟨d,op,some (g,w),hd,re⟩::l) s L H:=λaa a=>by
 obtain⟨n,i⟩:=h _ (a.set d .ahp);refine⟨n+1,?_⟩;have e:aa.get .ahp g=.bool b:=a.get hg rfl;have f:(b==w)=false:=by simpa using hb
 simp only[Xo,Go.al.az,dc,iT,e,f,abe,bD,AV.bC,bf];exact i
theorem RO.Ag{op:bE}{g:af}{w:Bool}{hd:List af}{re:List gE}(h:RO ac c (⟨d,op,none,hd,re⟩::l) s L H)(hg:aW L (.t g)=.bool w:=by exact cw):RO ac c (⟨d,op,some (g,w),hd,re⟩::l) s L H:=λaa a=>by obtain⟨n,b⟩:=h aa a;refine⟨n,?_⟩;have e:aa.get .ahp g=.bool w:=a.get hg rfl;cases n with|zero=>simp only[Xo,Go.al.az]at b|succ n=>simp only[Xo,Go.al.az,dc,e,beq_self_eq_true,bf]at b⊢;exact b
end
section
theorem tO{c:ak AV}{n:Nat}:∀{l:List AV}{o:Nat},o+l.length<=n->(∀i(h:i<l.length),c.bp .ahp (o+i)=l[i])->eX c n o l.length=some l
 |[],o,_,_=>by simp[eX]
 |z::l,o,h,hg=>by
  simp only[afB,eX];have h0:c.bp .ahp o=z:=hg 0 aF;have a:o<n:=by simp at h;omega
  have b:=tO (c:=c) (n:=n) (l:=l) (o:=o+1) (by simp at h;omega) (λi hi=>by have:=hg (i+1) (by simpa using hi);rw[show o+(i+1)=o+1+i by omega]at this;simpa using this);rw[aJ a,b,h0]
def Sl(H:ah)(size:Nat)(vs:List AV)(n:Nat)(sv:AV):Prop:=
 (sv=.aH/\n=0/\vs=[])\/∃i o cap ex c m e rw aM fz,sv=.slice i o n cap ex/\H.get i=.cells c m e rw aM fz/\o+n*size<=m/\vs.length=n*size/\(∀j(h:j<vs.length),c.bp .ahp (o+j)=vs[j])/\i.am<H.next.am/\n<=cap
variable{H H':ah}{size n e bytes:Nat}{vs ws:List AV}{sv:AV}
theorem Sl.length(h:Sl H size vs n sv):vs.length=n*size:=by
 rcases h with⟨_,rfl,rfl⟩|⟨_,_,_,_,_,_,_,_,_,_,_,_,_,h,_⟩;·simp
 exact h
theorem Sl.bC(h:Sl H size vs n sv):sv.bC=true:=by rcases h with⟨rfl,_⟩|⟨_,_,_,_,_,_,_,_,_,_,rfl,_⟩<;>rfl
theorem Sl.dg(h:Sl H size vs n sv):sv.dg=true:=by rcases h with⟨rfl,_⟩|⟨_,_,_,_,_,_,_,_,_,_,rfl,_⟩<;>rfl
theorem Sl.cells(h:Sl H size vs n sv):sv.cells=[sv]:=by rcases h with⟨rfl,_⟩|⟨_,_,_,_,_,_,_,_,_,_,rfl,_⟩<;>rfl
theorem Sl.len(h:Sl H size vs n sv):lenOf sv=some n:=by rcases h with⟨rfl,rfl,_⟩|⟨_,_,_,_,_,_,_,_,_,_,rfl,_⟩<;>rfl
theorem Sl.gh(h:Sl H size vs n sv):gh H size sv=some (n,vs):=by
 rcases h with⟨rfl,rfl,rfl⟩|⟨i,o,cap,ex,c,m,e,b,aM,fz,rfl,hg,d,hl,a,_⟩;·rfl
 have:=tO (c:=c) (n:=m) (l:=vs) (o:=o) ab a;rw[hl]at this;simp only[Go.al.gh,dK,hg,this]
theorem Sl.frame(h:Sl H size vs n sv)(k:H.next.am<=H'.next.am)(d:∀j:af,j.am<H.next.am->H'.get j=H.get j):Sl H' size vs n sv:=by
 rcases h with h|⟨i,o,cap,ex,c,m,e,b,aM,fz,h1,hg,f,hl,g,hi,a⟩;·exact .inl h
 exact .inr ⟨i,o,cap,ex,c,m,e,b,aM,fz,h1,by rw[d i hi];exact hg,f,hl,g,ab,a⟩
theorem Sl.at(h:Sl H size vs n sv)(l:0<n):∃i o cap ex,sv=.slice i o n cap ex/\n<=cap/\i.am<H.next.am/\(∀j(hj:j<vs.length),bx H i (o+j)=some vs[j])/\∀j k,(j+k)<=vs.length->dK H i (o+j) k=some ((vs.drop j).take k):=by
 rcases h with⟨_,rfl,_⟩|⟨i,o,cap,ex,c,m,e,f,aM,fz,h1,hg,p,hl,b,hi,a⟩;·omega
 refine⟨i,o,cap,ex,h1,a,hi,λj hj=>?_,λj k g=>?_⟩;·have hb:afR (o+j) m=true:=ahm agh ab;simp only[bx,hg,hb,bf,b j hj]
 have:=tO (c:=c) (n:=m) (l:=(vs.drop j).take k) (o:=o+j) (by simp;omega) (λx d=>by simp only[afH,agv]at d;rw[agM,b (j+x) ab];simp);simp only[afH,agv]at this;rw[agZ ab]at this;simp only[dK,hg,this]
def cM(H:ah)(fp:List af)(e size:Nat)(vs:List AV)(n:Nat)(full:Bool)(sv:AV):Prop:=
 (fp=[]/\vs=[]/\n=0/\sv=.aH)\/
 ∃i c aM cap ex,fp=i::aM/\sv=.slice i 0 n cap ex/\H.get i=.cells c (cap*size) e true aM 0/\n<=cap/\vs.length=n*size/\(∀j(h:j<vs.length),c.bp .ahp j=vs[j])/\(∀p∈fp,p.am<H.next.am)/\(full=true->ex=true\/n=cap)
variable{fp:List af}{full:Bool}
theorem cM.sl(h:cM H fp e size vs n full sv):Sl H size vs n sv:=by
 rcases h with⟨_,rfl,rfl,rfl⟩|⟨i,c,aM,cap,ex,rfl,rfl,hg,a,hl,b,d,_⟩;·exact .inl ⟨rfl,rfl,rfl⟩
 refine .inr ⟨i,0,cap,ex,c,_,e,true,aM,0,rfl,hg,?_,hl,λj hj=>by rw[afC];exact b j hj,d i (abL ..),a⟩;rw[afC];exact afN _ a
theorem cM.frame(h:cM H fp e size vs n full sv)(f:H.next.am<=H'.next.am)(g:∀j∈fp,H'.get j=H.get j):cM H' fp e size vs n full sv:=by
 rcases h with h|⟨i,c,aM,cap,ex,rfl,rfl,hg,b,hl,k,l,a⟩;·exact .inl h
 exact .inr ⟨i,c,aM,cap,ex,rfl,rfl,by rw[g i (abL ..)];exact hg,b,hl,k,λp d=>afT (l p d) f,a⟩
structure aZ(H H':ah):Prop where
 nx:H.next.am<=H'.next.am
 cG:∀j:af,j.am<H.next.am->H'.get j=H.get j
theorem aZ.refl(H:ah):aZ H H:=⟨adv _,λ_ _=>rfl⟩
theorem aZ.trans{A B C:ah}(h:aZ A B)(k:aZ B C):aZ A C:=⟨agE h.nx k.nx,λj hj=>(k.cG j (afT hj h.nx)).trans (h.cG j hj)⟩
theorem ah.lU(H:ah)(o:bL):(H.new o).next.am=H.next.am+1:=af.eI _
theorem aZ.new(H:ah)(o:bL):aZ H (H.new o):=⟨by rw[ah.lU];omega,λj hj=>by rw[ah.cz,ap (bM ab)]⟩
theorem aZ.sl(h:aZ H H')(k:Sl H size vs n sv):Sl H' size vs n sv:=k.frame h.nx h.cG
theorem aZ.bx(h:aZ H H'){i:af}(hi:i.am<H.next.am)(o:Nat):bx H' i o=Go.al.bx H i o:=mw (h.cG i hi) o
theorem cM.below(h:cM H fp e size vs n full sv):∀j∈fp,j.am<H.next.am:=by
 rcases h with⟨rfl,_⟩|⟨_,_,_,_,_,_,_,_,_,_,_,a,_⟩;·intro j hj;cases hj
 exact a
theorem GU:∀{l:List AV},cL l=true↔∀v∈l,v.dg=true|[]=>by simp[cL]|a::l=>by simp[cL,GU (l:=l)]
theorem rO{n:Nat}(h:n<=70368744177664):dH n=true:=af8 h
theorem wl{l:List AV}{j:Nat}(h:j<l.length):(bX l).bp .ahp j=l[j]:=by rw[me l j h];simp[afz,h]
theorem cM.new{vs:List AV}(b:vs.length=n*size)(ex full:Bool):cM (H.new (.cells (bX vs) (n*size) e true [] 0)) [H.next] e size vs n full (.slice H.next 0 n n ex):=.inr ⟨H.next,bX vs,[],n,ex,rfl,rfl,by rw[ah.cz,aJ rfl],adv _,b,λj hj=>wl hj,λp a=>by rw[abx]at a;subst a;rw[ah.lU];omega,λ_=>.inr rfl⟩
theorem cM.append(h:cM H fp e size vs n true sv){k:Nat}(r:ws.length=k*size)(h1:cL ws=true)(hb:(n+k)*bytes<=70368744177664)(hs:n+k<=70368744177664):∃t H' u,iR e bytes size H sv k ws=some (t,H')/\cM H' u e size (vs++ws) (n+k) true t/\H.next.am<=H'.next.am/\(∀j∈u,j∈fp\/(H.next.am<=j.am/\j.am<H'.next.am))/\∀j:af,j∉fp->j.am<H.next.am->H'.get j=H.get j:=by
 rcases h with⟨rfl,rfl,rfl,rfl⟩|⟨i,c,aM,cap,ex,rfl,rfl,hg,g,hl,x,w,a⟩
 .by_cases s:k=0;·subst s;have l:ws=[]:=afQ ab;subst l;refine⟨.aH,H,[],by simp[iR,cL],.inl ⟨rfl,rfl,rfl,rfl⟩,adv _,λj hj=>(by cases hj),λ_ _ _=>rfl⟩
  have m:afw k 0=false:=by cases h:afw k 0 with|false=>rfl|true=>exact absurd (afo h) s
  refine⟨.slice H.next 0 k k false,H.new (.cells (bX ws) (k*size) e true [] 0),[H.next],?_,?_,?_,?_,?_⟩;·rw[afC]at hb hs;simp only[iR,h1,afP,abe,bD,m,rO hb,rO hs,ahj,bf]
  .rw[afC];exact cM.new r false true
  .exact(aZ.new H _).nx
  .intro j hj;rw[abx]at hj;subst hj;right;rw[ah.lU];omega
  intro j _ hj;exact(aZ.new H _).cG j hj
 by_cases b:n+k<=cap
 .have d:ago (n+k) cap=true:=af8 b;by_cases s:k=0
  .subst s;have l:ws=[]:=afQ ab;subst l;refine⟨.slice i 0 (n+0) cap ex,H,i::aM,?_,?_,adv _,λj hj=>.inl hj,λ_ _ _=>rfl⟩;·simp only[iR,h1,afP,abe,bD,d,bf,agB]
   exact .inr ⟨i,c,aM,cap,ex,rfl,rfl,hg,g,by simpa using hl,by simpa using x,w,a⟩
  have m:afw k 0=false:=by cases h:afw k 0 with|false=>rfl|true=>exact absurd (afo h) s
  have A:n*size+ws.length<=cap*size:=by rw[r,<-ag8];exact afN _ b
  have y:fS H i (0+n*size) ws=some ((H.dN aM).set i (.cells (dY c (0+n*size) ws) (cap*size) e true [] 0)):=by
   have hd:(decide (0<=0+n*size)&&decide (0+n*size+ws.length<=cap*size)&&cL ws)=true:=by simp only[ae9,decide_eq_true_eq,h1,and_true];omega
   simp only[fS,hg,hd,bf]
  refine⟨.slice i 0 (n+k) cap ex,(H.dN aM).set i (.cells (dY c (0+n*size) ws) (cap*size) e true [] 0),[i],by simp only[iR,h1,afP,abe,bD,d,bf,m,y],?_,?_,?_,?_⟩
  .refine .inr ⟨i,dY c (0+n*size) ws,[],cap,ex,rfl,rfl,by rw[ah.aC,aJ rfl],b,by rw[afq,hl,r,ag8],λj hj=>?_,λp f=>?_,λB=>?_⟩
   .rw[lh];rw[afq]at hj;by_cases o:j<vs.length;·rw[ap ab,x j o,List.getElem_append_left o]
    rw[aJ ab,List.getElem_append_right ab];have:j - (0+n*size)<ws.length:=ab;simp only[afz,this,getElem?_pos,af5];congr 1;omega
   .rw[abx]at f;subst f;rw[ah.d8,ah.ix];exact w _ (abL ..)
   rcases a B with h|h;·exact .inl h
   right;omega
  .rw[ah.d8,ah.ix];exact adv _
  .intro j hj;rw[abx]at hj;subst hj;exact .inl (abL ..)
  intro j hj _;rw[ah.aC,ap λe:j=i=>hj (by rw[e];exact abL ..),ah.sW,ap λe=>hj (aco _ e)]
 have d:ago (n+k) cap=false:=by cases h:ago (n+k) cap with|false=>rfl|true=>exact absurd (afx h) b
 have hrd:eX c (cap*size) 0 (n*size)=some vs:=by have:=tO (c:=c) (n:=cap*size) (l:=vs) (o:=0) (by rw[afC,hl];exact afN _ g) (λj hj=>by rw[afC];exact x j hj);rw[hl]at this;exact this
 have v:(!(dH ((n+k)*bytes)&&dH (n+k)))=false:=by rw[rO hb,rO hs];rfl
 cases ex with
 |true=>
  refine⟨.slice H.next 0 (n+k) (n+k) false,H.new (.cells (bX (vs++ws)) ((n+k)*size) e true [] 0),[H.next],by simp only[iR,h1,afP,abe,bD,d,v,hg,hrd,bf],?_,(aZ.new H _).nx,?_,λj _ hj=>(aZ.new H _).cG j hj⟩;·exact cM.new (by rw[afq,hl,r,ag8]) false true
  intro j hj;rw[abx]at hj;subst hj;right;rw[ah.lU];omega
 |false=>
  have z:n=cap:=by rcases a rfl with h|h;cases h;exact h
  subst z;have q:(true&&afw n n&&afw (0+n*size) (n*size)&&afw e e&&ago 0 (n*size))=true:=by simp[agB]
  have C:i.am<H.next.am:=w i (abL ..);refine⟨.slice H.next 0 (n+k) (n+k) false,(H.set i (.cells c (n*size) e false aM 0)).new (.cells (bX (vs++ws)) ((n+k)*size) e true (i::aM) 0),H.next::i::aM,by simp only[iR,h1,afP,abe,bD,d,v,hg,hrd,q,bf],?_,?_,?_,?_⟩
  .refine .inr ⟨H.next,bX (vs++ws),i::aM,n+k,false,rfl,rfl,by rw[ah.cz,ah.d8,aJ rfl],adv _,by rw[afq,hl,r,ag8],λj hj=>wl hj,λp f=>?_,λ_=>.inr rfl⟩;rw[ah.lU,ah.d8];rcases acn.1 f with e|e;·subst e;omega
   have:=w p e;omega
  .rw[ah.lU,ah.d8];omega
  .intro j hj;rcases acn.1 hj with e|e;·subst e;right;rw[ah.lU,ah.d8];omega
   exact .inl e
  intro j hj o;rw[ah.cz,ah.d8,ap (bM ab),ah.aC,ap λe:j=i=>hj (by rw[e];exact abL ..)]
theorem RO.TZ{ac:Nat->aX}{c:Cx}{s:List SI}{L:Kn}{d:Option af}{l:List bA}{i:List AV}{x y:aL}{f:AV}{k:Nat}(g:cM H fp e size vs n true sv)(hs:Sl H size ws k f)(h1:cL ws=true)(h:∀a H' b,cM H' b e size (vs++ws) (n+k) true a->H.next.am<=H'.next.am->(∀j∈b,j∈fp\/(H.next.am<=j.am/\j.am<H'.next.am))->(∀j:af,j∉fp->j.am<H.next.am->H'.get j=H.get j)->RO ac c l s (bq L d a) H')(m:aW L x=sv:=by exact cw)(o:aW L y=f:=by exact cw)(hb:(n+k)*bytes<=70368744177664:=by omega)(p:n+k<=70368744177664:=by omega):RO ac c (⟨d,.append e bytes size i false x y,none,[],[]⟩::l) s L H:=by obtain⟨a,H',b,h2,h3,q,r,t⟩:=g.append (bytes:=bytes) hs.length h1 hb p;exact RO.append hs.gh h2 (h a H' b h3 q r t) m g.sl.bC o hs.bC
end
section
variable{ac:Nat->aX}{c:Cx}{s:List SI}{L:Kn}{H:ah}{d:Option af}{l:List bA}
abbrev aI(z:Int):AV:=.int 3 z
abbrev aN(n:Nat):AV:=.int 3 (.ofNat n)
theorem mC(l:List Int):cL (l.map aI)=true:=GU.2 λv a=>by obtain⟨z,_,rfl⟩:=afE.1 a;rfl
abbrev eU(H:ah)(l:List Int)(a:AV):Prop:=Sl H 1 (l.map aI) l.length a
theorem RO.T0{a:List Int}{b:AV}{x y:aL}{j k:Nat}(hs:eU H a b)(h:∀i o z,a[j]?=some z->bx H i o=some (aI z)->i.am<H.next.am->RO ac c l s (bq L d (.aE i o)) H)(f:aW L x=b:=by exact cw)(g:aW L y=.int k (.ofNat j):=by exact cw)(hj:j<a.length:=by omega):RO ac c (⟨d,.ch 1 x y,none,[],[]⟩::l) s L H:=by obtain⟨i,o,m,e,rfl,h1,h2,h3,n⟩:=hs.at ab;refine RO.ch (h i (o+j*1) a[j] (getElem?_pos a j hj) ?_ h2) f g hj;have:=h3 (j*1) (by simpa using hj);rw[this];simp
theorem RO.Cq{op:bE}{hd:List af}{re:List gE}{v:AV}{g:ah}(j:∀f a,op≠.call f a)(e:∀a,op≠.jG a)(he:∀aa,Le L aa->∃i,aD op aa (cW aa H hd).1=some (v,i)/\cH i (cW aa H hd).2=g)(k:∀aa,Le (bq L d v) aa->du aa g re=true)(h:RO ac c l s (bq L d v) g):RO ac c (⟨d,op,none,hd,re⟩::l) s L H:=λaa b=>by obtain⟨n,m⟩:=h _ (b.set d v);obtain⟨i,h1,h2⟩:=he aa b;have h3:=k _ (b.set d v);refine⟨n+1,?_⟩;cases op<;>first|exact absurd rfl (j _ _)|exact absurd rfl (e _)|(simp only[Xo,Go.al.az,dc,bf,h1,h2,h3];exact m)
theorem RO.GV{d:Option af}{f:aL}{args:List aL}{l:List bA}{re:List gE}{fv:AV}{e:List AV}(h:YF ac fv e H λv b=>(∀aa,Le (bq L d v) aa->du aa b re=true)/\RO ac c l s (bq L d v) b)(p:aW L f=fv:=by exact cw)(i:fv.bC=true:=by first|rfl|assumption)(q:args.map (aW L)=e:=by rfl)(j:e.all AV.bC=true:=by first|rfl|assumption):RO ac c (⟨d,.call f args,none,[],re⟩::l) s L H:=λaa a=>by
 obtain⟨n,r⟩:=h;have k:args.map (gv aa)=e:=by subst q;refine agG λx t=>?_;exact a.gv rfl (agn.1 j _ (afI t))
 obtain⟨m,g⟩:=(wi ac n).call (K:=λm v b=>du (aK aa d v) b re=true/\Xo ac m l ⟨aK aa d v,c.M,c.R⟩ b (iH ac c.K s .none)) (λm u v H g h=>⟨h.1,h.2.mono g λ_ _ h=>h⟩) ((mono ac n).call (adv _) (λv b o=>by obtain⟨m,g⟩:=o.2 _ (a.set d v);exact⟨m,o.1 _ (a.set d v),g⟩) r);refine⟨max n m+1,?_⟩;simp only[Xo,Go.al.az,dc,cW,cH,bf];rw[a.gv p i,k];refine(show Xf ac n fv e H _ from g).mono (Nat.le_max_left ..) λv b h=>?_;rw[aJ h.1];exact(show Xo ac m l _ b _ from h.2).mono (Nat.le_max_right ..) λ_ _ h=>h
end
section
variable{A B C H H':ah}{size n e bytes cap:Nat}{vs ws:List AV}{sv:AV}{fp fp' f a b c:List af}{full ex:Bool}{i:af}
structure lr(fp fp':List af)(H H':ah):Prop where
 nx:H.next.am<=H'.next.am
 hd:∀j∈fp',j∈fp\/H.next.am<=j.am
 cG:∀j:af,j∉fp->j.am<H.next.am->H'.get j=H.get j
def px(A:ah)(fp:List af):Prop:=∀j∈fp,A.next.am<=j.am
theorem lr.cq(h:lr fp fp' H H')(hg:aZ A H)(g:px A fp):aZ A H':=⟨agE hg.nx h.nx,λj hj=>by rw[h.cG j (λe=>by have:=g j e;omega) (afT hj hg.nx)];exact hg.cG j hj⟩
theorem lr.GW(h:lr fp fp' H H')(hg:aZ A H)(g:px A fp):px A fp':=λj hj=>by
 rcases h.hd j hj with e|e;·exact g j e
 have:=hg.nx;omega
theorem lr.refl(fp:List af)(H:ah):lr fp fp H H:=⟨adv _,λ_ hj=>.inl hj,λ_ _ _=>rfl⟩
theorem cM.rP(h:cM H fp e size vs n full (.slice i 0 n cap ex)){o:Nat}{us:List AV}(z:o+ws.length<=cap*size)(h1:cL ws=true)(hl:us.length=vs.length)(hu:∀j,j<vs.length->us[j]?=if o<=j/\j<o+ws.length then ws[j - o]? else vs[j]?):∃H',fS H i o ws=some H'/\lr fp [i] H H'/\cM H' [i] e size us n full (.slice i 0 n cap ex):=by
 rcases h with⟨_,_,_,h⟩|⟨D,c,aM,u,y,rfl,h2,hg,r,t,v,w,m⟩;·cases h
 injection h2 with h2 _ _ h3 x;subst h2;subst h3;subst x;have hd:(decide (0<=o)&&decide (o+ws.length<=cap*size)&&cL ws)=true:=by simp only[ae9,decide_eq_true_eq,h1,and_true];omega
 refine⟨(H.dN aM).set i (.cells (dY c o ws) (cap*size) e true [] 0),by simp only[fS,hg,hd,bf],⟨Nat.le_of_eq (by rw[ah.d8,ah.ix]),λj hj=>?_,λj hj E=>?_⟩,?_⟩;·rw[abx]at hj;subst hj;exact .inl (abL ..)
 .rw[ah.aC,ap λe:j=i=>hj (by rw[e];exact abL ..),ah.sW,ap λe=>hj (aco _ e)]
 refine .inr ⟨i,dY c o ws,[],cap,ex,rfl,rfl,by rw[ah.aC,aJ rfl],r,hl.trans t,λj hj=>?_,λp q=>?_,m⟩
 .have g:j<vs.length:=ab;have:=hu j g;rw[getElem?_pos us j hj]at this;rw[lh];split;·rename_i k;rw[aJ k,getElem?_pos ws _ ab]at this;injection this with this;simp only[afz];rw[getElem?_pos ws _ ab];simp[this]
  rename_i k;rw[ap k,getElem?_pos vs _ g]at this;injection this with this;rw[v j g,this]
 rw[abx]at q;subst q;rw[ah.d8,ah.ix];exact w _ (abL ..)
theorem cM.mem(h:cM H fp e size vs n full (.slice i 0 n cap ex)):i∈fp/\n<=cap/\i.am<H.next.am:=by
 rcases h with⟨_,_,_,h⟩|⟨q,c,aM,k,o,rfl,h2,hg,g,p,r,m,j⟩;·cases h
 injection h2 with h2 _ _ h3 t;subst h2;subst h3;exact⟨abL ..,g,m _ (abL ..)⟩
theorem cM.rQ(h:cM H fp e size vs n full sv)(o:n≠0):∃i cap ex,sv=.slice i 0 n cap ex:=by
 rcases h with⟨_,_,h,_⟩|⟨p,c,aM,g,j,rfl,h2,hg,m,q,r,t,k⟩;·exact absurd h o
 exact⟨p,g,j,h2⟩
variable{l:List (Int×Int)}
variable{ac:Nat->aX}{cx:Cx}{s:List SI}{L:Kn}{d:Option af}{az:List bA}
end
section
variable{ac:Nat->aX}{c:Cx}{s:List SI}{L:Kn}{H H' A:ah}{d:Option af}{l:List bA}{size n e:Nat}{vs ws:List AV}{sv:AV}{fp fp':List af}
theorem RO.bR{q:af}{p:Prop} [Decidable p](h1:p->RO ac c l s ((q,.bool true)::L) H)(h2:¬p->RO ac c l s ((q,.bool false)::L) H):RO ac c l s ((q,.bool (decide p))::L) H:=by
 by_cases a:p;·rw[decide_eq_true a];exact h1 a
 rw[decide_eq_false a];exact h2 a
theorem RO.oq{q:af}{t:Bool}(h1:t=true->RO ac c l s ((q,.bool true)::L) H)(h2:t=false->RO ac c l s ((q,.bool false)::L) H):RO ac c l s ((q,.bool t)::L) H:=by cases t with|true=>exact h1 rfl|false=>exact h2 rfl
theorem mX{k b y:Nat}(h:b<=y):l9 (.int k (.ofNat b)) y=some b:=by simp only[l9,af8 h,bf]
theorem RO.LZ{x y:aL}{b k:Nat}(hs:Sl H size vs n sv)(h:∀a,Sl H size (vs.take (b*size)) b a->RO ac c l s (bq L d a) H)(g:aW L x=sv:=by exact cw)(p:aW L y=.int k (.ofNat b):=by exact cw)(hb:b<=n:=by omega):RO ac c (⟨d,.gD e size x none (some y) none,none,[],[]⟩::l) s L H:=by
 rcases hs with⟨rfl,rfl,rfl⟩|⟨i,o,cap,ex,t,m,u,f,aM,fz,rfl,hg,C,hl,z,hi,r⟩;·have:b=0:=ab;subst this;refine RO.Cp (m:=0) (b:=0) (a:=0) g rfl ?_ rfl (h _ (.inl ⟨rfl,rfl,aF⟩));simp only[iI,p];exact mX (adv _)
 refine RO.gD (m:=cap) (b:=b) (a:=0) g rfl ?_ rfl aF ?_;·simp only[iI,p];exact mX ab
 have B:(if ex&&decide (cap=0)then o else o+0*size)=o:=by split<;>omega
 rw[B,ahg,ahg];have bW:b*size<=n*size:=afN _ hb;refine h _ (.inr ⟨i,o,cap,_,t,m,u,f,aM,fz,rfl,hg,ab,?_,λj hj=>?_,hi,ab⟩);·rw[afH];omega
 rw[afH]at hj;rw[z j ab];simp
variable{q:af}{v w:AV}
theorem RO.T1{f:List AV}(h:∀H' a fp',cM H' fp' e size [] 0 true a->aZ H H'->px H fp'->RO ac c l s (bq L d a) H'):RO ac c (⟨d,.buildSlice e 0 f [],none,[],[]⟩::l) s L H:=by refine RO.buildSlice (vs:=[]) ?_ rfl rfl;have b:cM (H.new (.cells (bX []) (0*size) e true [] 0)) [H.next] e size [] 0 true (.slice H.next 0 0 0 true):=cM.new (vs:=[]) aF true true;rw[Nat.zero_mul]at b;exact h _ _ _ b (aZ.new H _) (λj hj=>by rw[abx]at hj;subst hj;exact adv _)
theorem RO.T2{x y:aL}{b:AV}{k bytes:Nat}{f:List AV}(g:cM H fp e size vs n true sv)(hs:Sl H size ws k b)(h1:cL ws=true)(h:∀a H' fp',cM H' fp' e size (vs++ws) (n+k) true a->lr fp fp' H H'->RO ac c l s (bq L d a) H')(i:aW L x=sv:=by exact cw)(m:aW L y=b:=by exact cw)(hb:(n+k)*bytes<=70368744177664:=by omega)(o:n+k<=70368744177664:=by omega):RO ac c (⟨d,.append e bytes size f false x y,none,[],[]⟩::l) s L H:=RO.TZ g hs h1 (λa H' fp' h2 h3 p r=>h a H' fp' h2 ⟨h3,λj hj=>(p j hj).imp id λh=>h.1,r⟩) i m hb o
theorem RO.L9{e size:Nat}{x:aL}{lo hi f:Option aL}{i:af}{o n g:Nat}{ex:Bool}{a b m:Nat}{v:AV}(j:aW L x=.slice i o n g ex)(k:iI L f g g=some m)(hb:iI L hi n m=some b)(p:iI L lo 0 b=some a)(he:(ex||f.isSome||lo.isNone||oT H i e)=true)(r:AV.slice i (if ex&&decide (m=a)then o else o+a*size) (b - a) (m - a) (ex||f.isSome)=v)(h:RO ac c l s (bq L d v) H):RO ac c (⟨d,.gD e size x lo hi f,none,[],[]⟩::l) s L H:=by subst r;exact RO.gD j k hb p he h
end
section
variable{ac:Nat->aX}{c:Cx}{s:List SI}{L:Kn}{H H' A:ah}{d:Option af}{l:List bA}{size n e k cap bytes:Nat}{vs ws:List AV}{sv:AV}{fp fp':List af}{full ex:Bool}{i:af}
end
section
variable{ac:Nat->aX}{c:Cx}{s:List SI}{L:Kn}{H:ah}{d:Option af}{l:List bA}
theorem RO.GQ{x a b:aL}{v:AV}(h:RO ac c l s (bq L d v) H)(f:aW L x=.bool true:=by exact cw)(g:aW L a=v:=by exact cw)(i:v.bC=true:=by first|rfl|assumption):RO ac c (⟨d,.pick x a b,none,[],[]⟩::l) s L H:=RO.op (λaa e=>by simp only[aD,e.gv f rfl,e.gv g i,bf]) h
theorem RO.GR{x a b:aL}{v:AV}(h:RO ac c l s (bq L d v) H)(f:aW L x=.bool false:=by exact cw)(hb:aW L b=v:=by exact cw)(g:v.bC=true:=by first|rfl|assumption):RO ac c (⟨d,.pick x a b,none,[],[]⟩::l) s L H:=RO.op (λaa e=>by simp only[aD,e.gv f rfl,e.gv hb g,abe,bD]) h
theorem RO.LW{op:bE}{g:af}{w:Bool}{hd:List af}{re:List gE}(h:RO ac c l s (bq L d .ahp) H)(hg:aW L (.t g)=.tuple []:=by exact cw):RO ac c (⟨d,op,some (g,w),hd,re⟩::l) s L H:=λaa a=>by obtain⟨n,b⟩:=h _ (a.set d .ahp);refine⟨n+1,?_⟩;have e:aa.get .ahp g=.tuple []:=a.get hg rfl;simp only[Xo,Go.al.az,dc,iT,e,abe,bD,AV.bC,bf];exact b
theorem ad{v:AV}{l:List AV}(h:v.bC=true)(h2:l.all AV.bC=true):(v::l).all AV.bC=true:=by simp only[List.all_cons,h,h2,ahj]
theorem RO.cl{f:aL}{args:List aL}{fv:AV}{a:List AV}(h:YF ac fv a H λv g=>RO ac c l s (bq L d v) g)(i:aW L f=fv:=by exact cw)(b:fv.bC=true:=by first|rfl|assumption)(ha:args.map (aW L)=a:=by rfl)(e:a.all AV.bC=true:=by repeat first|rfl|assumption|(refine ad ?_ ?_)):RO ac c (⟨d,.call f args,none,[],[]⟩::l) s L H:=RO.call h i b ha e
theorem ou{k:Nat}(h:1<=k)(a:k<1000000):eR .sub 3 (.ofNat k) (.ofNat 1)=some (.int 3 (.ofNat (k - 1))):=by simp only[eR];rw[show(age k - age 1:Int)=age (k - 1)from by first|omega|(simp;omega)|(simp;done),mA (by first|omega|(simp;done)|(simp;omega)) (by first|omega|(simp;done)|(simp;omega))]
theorem bB{a:Type}{l:List a}{k:Nat}(h:k<l.length)(d:a):l.getD k d=l[k]:=by simp only[afz,getElem?_pos l k h,af5]
theorem YF.l9{f:Nat}{a as_ cs:List AV}{K:KT}(h:YF ac (.func f a cs) as_ H K):YF ac (.func f [] cs) (a++as_) H K:=by obtain⟨n,h⟩:=h;refine⟨n,?_⟩;cases n with|zero=>simp only[Xf,dT]at h|succ n=>simpa only[Xf,dT,agq]using h
end
section
structure Th where
 P:ah->List af->Prop
 fr:∀{H H':ah}{fp:List af},P H fp->H.next.am<=H'.next.am->(∀j∈fp,H'.get j=H.get j)->P H' fp
 lt:∀{H:ah}{fp:List af},P H fp->∀j∈fp,j.am<H.next.am
def Fs(A H:ah):List (List af)->List Th->Prop
 |[],[]=>True
 |fp::fs,t::ts=>t.P H fp/\px A fp/\(∀j∈fp,∀f∈fs,j∉f)/\Fs A H fs ts
 |_,_=>False
def aq(A H:ah)(ts:List Th):Prop:=aZ A H/\∃fs,Fs A H fs ts
variable{A B H H' b:ah}{fs:List (List af)}{ts us:List Th}{t t':Th}{fp fp':List af}
theorem Fs.lt:∀{fs:List (List af)}{ts:List Th},Fs A H fs ts->∀f∈fs,∀j∈f,j.am<H.next.am
 |[],[],_,f,a=>by cases a
 |fp::fs,t::ts,⟨h1,_,_,c⟩,f,a=>by
  rcases acn.1 a with rfl|a;·exact t.lt h1
  exact Fs.lt c f a
 |[],_::_,h,_,_=>h.elim
 |_::_,[],h,_,_=>h.elim
theorem Fs.ge:∀{fs:List (List af)}{ts:List Th},Fs A H fs ts->∀f∈fs,px A f
 |[],[],_,f,a=>by cases a
 |fp::fs,t::ts,⟨_,h2,_,c⟩,f,a=>by
  rcases acn.1 a with rfl|a;·exact h2
  exact Fs.ge c f a
 |[],_::_,h,_,_=>h.elim
 |_::_,[],h,_,_=>h.elim
theorem Fs.pu(a:H.next.am<=H'.next.am):∀{fs:List (List af)}{ts:List Th},Fs A H fs ts->(∀f∈fs,∀j∈f,H'.get j=H.get j)->Fs A H' fs ts|[],[],_,_=>trivial|_::_,t::_,⟨h1,h2,h3,c⟩,hg=>⟨t.fr h1 a (hg _ (abL ..)),h2,h3,Fs.pu a c λf d=>hg f (aco _ d)⟩|[],_::_,h,_=>h.elim|_::_,[],h,_=>h.elim
theorem Fs.iJ(hg:aZ A H)(hu:lr fp fp' H H'):∀{fs:List (List af)}{ts:List Th}{i:Nat},Fs A H fs ts->ts[i]?=some t->fs[i]?=some fp->t'.P H' fp'->∃c,Fs A H' c (ts.set i t')/\∀f∈c,f=fp'\/f∈fs
 |[],[],i,_,h,_,_=>by simp at h
 |[],_::_,_,h,_,_,_=>h.elim
 |_::_,[],_,h,_,_,_=>h.elim
 |m::fs,t0::ts,0,⟨h1,h2,h3,g⟩,k,a,n=>by
  simp only[agO,aaM]at k a;subst k;subst a;refine⟨fp'::fs,⟨n,hu.GW hg h2,λj hj f a e=>?_,Fs.pu hu.nx g λf a j hj=>hu.cG j (λe=>h3 j e f a hj) (Fs.lt g f a j hj)⟩,λf a=>(acn.1 a).imp id λh=>aco _ h⟩;rcases hu.hd j hj with h|h;·exact h3 j h f a e
  have:=Fs.lt g f a j e;omega
 |m::fs,t0::ts,i+1,⟨h1,h2,h3,g⟩,k,a,n=>by
  simp only[af9]at k a;have p:=List.mem_of_getElem? a;have l:=t0.lt h1;have d:∀j∈m,j∉fp:=λj hj=>h3 j hj fp p;obtain⟨c,q,o⟩:=Fs.iJ hg hu g k a n;refine⟨m::c,⟨t0.fr h1 hu.nx λj hj=>hu.cG j (d j hj) (l j hj),h2,λj hj f a e=>?_,q⟩,λf a=>?_⟩
  .rcases o f a with rfl|h
   .rcases hu.hd j e with h|h;·exact d j hj h
    have:=l j hj;omega
   exact h3 j hj f h e
  rcases acn.1 a with rfl|h;·exact .inr (abL ..)
  exact(o f h).imp id λh=>aco _ h
theorem Fs.at:∀{fs:List (List af)}{ts:List Th}{i:Nat},Fs A H fs ts->ts[i]?=some t->∃fp,fs[i]?=some fp/\t.P H fp|[],[],i,_,h=>by simp at h|[],_::_,_,h,_=>h.elim|_::_,[],_,h,_=>h.elim|c::fs,t0::ts,0,⟨h1,_,_,_⟩,a=>by simp only[agO,aaM]at a;subst a;exact⟨c,rfl,h1⟩|c::fs,t0::ts,i+1,⟨_,_,_,d⟩,a=>by simp only[af9]at a;obtain⟨fp,e,h⟩:=Fs.at d a;exact⟨fp,by simpa using e,h⟩
theorem aq.iJ(U:aq A H ts)(i:Nat)(hi:ts[i]?=some t):∃fp,t.P H fp/\px A fp/\∀{H':ah}{fp':List af}{t':Th},lr fp fp' H H'->t'.P H' fp'->aq A H' (ts.set i t'):=by obtain⟨hg,fs,a⟩:=U;obtain⟨fp,e,h⟩:=a.at hi;refine⟨fp,h,a.ge fp (List.mem_of_getElem? e),λhu d=>⟨hu.cq hg (a.ge fp (List.mem_of_getElem? e)),?_⟩⟩;obtain⟨c,h1,_⟩:=a.iJ hg hu hi e d;exact⟨c,h1⟩
theorem aq.gr(U:aq A H ts):aZ A H:=U.1
theorem aq.nil(hg:aZ A H):aq A H []:=⟨hg,[],trivial⟩
theorem aq.push(U:aq A H ts)(hg:aZ H H')(h:t.P H' fp)(d:px H fp):aq A H' (t::ts):=by obtain⟨g,fs,a⟩:=U;refine⟨g.trans hg,fp::fs,h,λj hj=>agE g.nx (d j hj),λj hj f c e=>?_,Fs.pu hg.nx a λf c j hj=>hg.cG j (a.lt f c j hj)⟩;have:=a.lt f c j e;have:=d j hj;omega
theorem aq.cq(U:aq A H ts)(hg:aZ H H'):aq A H' ts:=by obtain⟨c,fs,a⟩:=U;exact⟨c.trans hg,fs,Fs.pu hg.nx a λf d j hj=>hg.cG j (a.lt f d j hj)⟩
theorem aq.tail(U:aq A H (t::ts)):aq A H ts:=by obtain⟨c,fs,a⟩:=U;cases fs with|nil=>exact a.elim|cons f fs=>exact⟨c,fs,a.2.2.2⟩
theorem aq.eO(U:aq A H ts):∀{us:List Th},aq H H' us->aq A H' (us++ts)
 |us,q=>by
  obtain⟨hg,fs,l⟩:=q;have h0:=U.cq hg;induction us generalizing fs with
  |nil=>exact h0
  |cons t us m=>
   cases fs with
   |nil=>exact l.elim
   |cons f fs=>
    obtain⟨h1,h2,h3,g⟩:=l;obtain⟨n,o,a⟩:=U;have key:∀{us:List Th}{fs:List (List af)},Fs H H' fs us->∃c,Fs A H' c (us++ts)/\∀k∈c,k∈fs\/k∈o:=by
     intro us;induction us with
     |nil=>intro fs _;exact⟨o,Fs.pu hg.nx a λf r j hj=>hg.cG j (a.lt f r j hj),λk d=>.inr d⟩
     |cons t us m=>
      intro fs h;cases fs with
      |nil=>exact h.elim
      |cons f fs=>
       obtain⟨h1,h2,h3,g⟩:=h;obtain⟨c,i,p⟩:=m g;refine⟨f::c,⟨h1,λj hj=>agE n.nx (h2 j hj),λj hj k d e=>?_,i⟩,λk d=>?_⟩
       .rcases p k d with h|h;·exact h3 j hj k h e
        have:=a.lt k h j e;have:=h2 j hj;omega
       rcases acn.1 d with rfl|h;·exact .inl (abL ..)
       exact(p k h).imp (aco _) id
    obtain⟨c,i,_⟩:=key (us:=t::us) (fs:=f::fs) ⟨h1,h2,h3,g⟩;exact⟨n.trans hg,c,i⟩
theorem aq.bN(U:aq A H ts)(a:H'.next=H.next)(hg:∀j,H'.get j=H.get j):aq A H' ts:=U.cq ⟨by rw[a];exact adv _,λj _=>hg j⟩
theorem aq.ct(H:ah):aq H H []:=aq.nil (aZ.refl H)
theorem Fs.Ma:∀{fs:List (List af)}{ts:List Th}{i:Nat},Fs A H fs ts->ts[i]?=some t->∃fp a,t.P H fp/\px A fp/\Fs A H a (ts.eraseIdx i)/\(∀g∈a,g∈fs)/\fp∈fs/\∀j∈fp,∀g∈a,j∉g
 |[],[],i,_,h=>by simp at h
 |[],_::_,_,h,_=>h.elim
 |_::_,[],_,h,_=>h.elim
 |d::fs,t0::ts,0,⟨h1,h2,h3,f⟩,c=>by simp only[agO,aaM]at c;subst c;exact⟨d,fs,h1,h2,f,λg hg=>aco _ hg,abL ..,h3⟩
 |d::fs,t0::ts,i+1,⟨h1,h2,h3,f⟩,c=>by
  simp only[af9]at c;obtain⟨fp,a,m,n,o,k,l,p⟩:=Fs.Ma f c;refine⟨fp,d::a,m,n,⟨h1,h2,λj hj g hg=>h3 j hj g (k g hg),o⟩,λg hg=>?_,aco _ l,λj hj g hg e=>?_⟩
  .rcases acn.1 hg with rfl|h;·exact abL ..
   exact aco _ (k g h)
  rcases acn.1 hg with rfl|h;·exact h3 j e fp l hj
  exact p j hj g h e
theorem aq.fI(U:aq A H ts)(i:Nat)(hi:ts[i]?=some t):aq A H (t::ts.eraseIdx i):=by obtain⟨a,fs,c⟩:=U;obtain⟨fp,d,e,f,g,_,_,h⟩:=c.Ma hi;exact⟨a,fp::d,e,f,h,g⟩
theorem aq.get(U:aq A H ts)(i:Nat)(hi:ts[i]?=some t):∃fp,t.P H fp:=by obtain⟨fp,h,_⟩:=U.iJ i hi;exact⟨fp,h⟩
theorem aq.as(U:aq A H ts)(i:Nat)(hi:ts[i]?=some t)(h:∀fp,t.P H fp->t'.P H fp):aq A H (ts.set i t'):=by obtain⟨fp,h1,_,h2⟩:=U.iJ i hi;exact h2 (lr.refl fp H) (h fp h1)
theorem aq.T3(U:aq A H ts)(hg:aZ B A):aq B H ts:=by
 obtain⟨c,fs,a⟩:=U;refine⟨hg.trans c,fs,?_⟩;induction fs generalizing ts with
 |nil=>cases ts with|nil=>trivial|cons _ _=>exact a.elim
 |cons f fs d=>cases ts with|nil=>exact a.elim|cons t ts=>exact⟨a.1,λj hj=>agE hg.nx (a.2.1 j hj),a.2.2.1,d a.2.2.2⟩
theorem Fs.cJ(h:ts.Perm us):∀{fs:List (List af)},Fs A H fs ts->∃c,Fs A H c us/\∀g,g∈c↔g∈fs:=by
 induction h with
 |nil=>intro fs h;exact⟨fs,h,λ_=>Iff.rfl⟩
 |cons t _ q=>intro fs h;cases fs with|nil=>exact h.elim|cons f fs=>obtain⟨h1,h2,h3,m⟩:=h;obtain⟨c,n,i⟩:=q m;exact⟨f::c,⟨h1,h2,λj hj g hg=>h3 j hj g ((i g).1 hg),n⟩,λg=>by simp only[acn,i]⟩
 |swap a y l=>
  intro fs h;cases fs with
  |nil=>exact h.elim
  |cons f fs=>
   cases fs with
   |nil=>exact h.2.2.2.elim
   |cons g fs=>
    obtain⟨h1,h2,h3,m,r,s,u⟩:=h;refine⟨g::f::fs,⟨m,r,λj hj k d=>?_,h1,h2,λj hj k d=>h3 j hj k (aco _ d),u⟩,λk=>by simp only[acn];grind⟩;rcases acn.1 d with rfl|d;·exact λe=>h3 j e g (abL ..) hj
    exact s j hj k d
 |trans _ _ o p=>intro fs h;obtain⟨c,n,i⟩:=o h;obtain⟨v,w,x⟩:=p n;exact⟨v,w,λg=>(x g).trans (i g)⟩
theorem aq.cJ(U:aq A H ts)(h:ts.Perm us):aq A H us:=by obtain⟨a,fs,c⟩:=U;obtain⟨d,e,_⟩:=c.cJ h;exact⟨a,d,e⟩
theorem aq.eG{xs:List Th}(U:aq A H (xs++ts++us)):aq A H (ts++(xs++us)):=by have:=U.cJ (afV.append_right us);rwa[afu]at this
theorem aq.j5{xs:List Th}(U:aq A H (ts++(xs++us))):aq A H (xs++ts++us):=by rw[<-afu]at U;exact U.cJ (afV.append_right us)
theorem aq.Cr(U:aq A H (t::ts++us)):aq A H (ts++t::us):=U.cJ af6.symm
theorem aq.rR(U:aq A H (ts++t::us)):aq A H (t::ts++us):=U.cJ af6
theorem Fs.sub(h:us.Sublist ts):∀{fs:List (List af)},Fs A H fs ts->∃c,Fs A H c us/\∀g∈c,g∈fs:=by
 induction h with
 |slnil=>intro fs h;exact⟨fs,h,λ_ h=>h⟩
 |cons a _ i=>intro fs h;cases fs with|nil=>exact h.elim|cons f fs=>obtain⟨c,k,d⟩:=i h.2.2.2;exact⟨c,k,λg hg=>aco _ (d g hg)⟩
 |cons_cons a _ i=>intro fs h;cases fs with|nil=>exact h.elim|cons f fs=>obtain⟨h1,h2,h3,l⟩:=h;obtain⟨c,k,d⟩:=i l;exact⟨f::c,⟨h1,h2,λj hj g hg=>h3 j hj g (d g hg),k⟩,λg hg=>(acn.1 hg).elim (λe=>e▸abL ..) λh=>aco _ (d g h)⟩
theorem aq.sub(U:aq A H ts)(h:us.Sublist ts):aq A H us:=by obtain⟨a,fs,c⟩:=U;obtain⟨d,e,_⟩:=c.sub h;exact⟨a,d,e⟩
theorem aq.skip{a:List Th}(U:aq A H (ts++a++us)):aq A H (ts++us):=by rw[afu]at U;exact U.sub ((List.sublist_append_right a us).append_left ts)
end
section
def tS(e size:Nat)(vs:List AV)(n:Nat)(full:Bool)(sv:AV):Th where
 P H fp:=cM H fp e size vs n full sv
 fr h a hg:=h.frame a hg
 lt h:=h.below
def tB(e:Nat)(q:af)(vs:List AV):Th where
 P H fp:=q∈fp/\(∀j∈fp,j=q)/\∃c,H.get q=.cells c vs.length e true [] 0/\(∀j(h:j<vs.length),c.bp .ahp j=vs[j])/\q.am<H.next.am
 fr h b hg:=by
  obtain⟨h1,h2,c,h3,f,a⟩:=h
  exact⟨h1,h2,c,by rw[hg _ h1];exact h3,f,afT a b⟩
 lt h:=by
  obtain⟨_,h2,c,_,_,a⟩:=h
  intro j hj;rw[h2 j hj];exact a
variable{A H H':ah}{ts us:List Th}{e size n o m i k bytes:Nat}{vs ws:List AV}{sv v w:AV}{full ex:Bool}{q:af}{cap:Nat}{fp:List af}
variable{ac:Nat->aX}{c:Cx}{s:List SI}{L:Kn}{d:Option af}{l:List bA}
theorem ao{v:AV}{l:List AV}(h:v.dg=true)(h2:cL l=true):cL (v::l)=true:=by simp only[cL,h,h2,ahj]
theorem cM.GY(h:cM H fp e size vs n full (.slice q 0 n cap ex))(g:vs[o]?=some v):bx H q o=some v:=by
 obtain⟨b,j⟩:=af3.1 g;have p:0<n:=by
  have:=h.sl.length;rcases agX n with e|e;·subst e;simp at this;rw[this]at b;simp at b
  exact e
 obtain⟨i,r,t,u,a,_,_,hat,_⟩:=h.sl.at p;injection a with a f;subst a;subst f;have:=hat o b;rw[afC]at this;rw[this,j]
theorem tB.cell{fp:List af}(h:(tB e q vs).P H fp)(b:vs[o]?=some v):bx H q o=some v:=by obtain⟨_,_,c,h3,f,_⟩:=h;obtain⟨a,g⟩:=af3.1 b;simp only[bx,h3,show afR o vs.length=true from ahm agh a,bf,f o a,g]
theorem tB.lV{fp:List af}(h:(tB e q vs).P H fp)(f:o+m<=vs.length):dK H q o m=some ((vs.drop o).take m):=by obtain⟨_,_,c,h3,a,_⟩:=h;have:=tO (c:=c) (n:=vs.length) (l:=(vs.drop o).take m) (o:=o) (by simp;omega) (λx b=>by simp only[afH,agv]at b;rw[a (o+x) ab];simp);simp only[afH,agv]at this;rw[agZ ab]at this;simp only[dK,h3,this]
def sp(vs:List AV)(o:Nat)(ws:List AV):List AV:=vs.take o++(ws++vs.drop (o+ws.length))
theorem GZ(h:o+ws.length<=vs.length):(sp vs o ws).length=vs.length:=by simp[sp];omega
theorem Mb(h:o+ws.length<=vs.length)(j:Nat):(sp vs o ws)[j]?=if o<=j/\j<o+ws.length then ws[j - o]? else vs[j]?:=by
 unfold sp;rw[List.getElem?_append];simp only[afH,agZ (show o<=vs.length by omega)];split;·rename_i h1;rw[ap ab,List.getElem?_take,aJ h1]
 rename_i h1;rw[List.getElem?_append];split;·rename_i h2;rw[aJ ab]
 rename_i h2;rw[ap ab,List.getElem?_drop];congr 1;omega
theorem T4(h:o<vs.length):sp vs o [w]=vs.set o w:=by
 apply List.ext_getElem?;intro j;rw[Mb (by simp;omega),List.getElem?_set];simp only[af2];by_cases hj:o=j;·subst hj;rw[aJ ab,aJ rfl,aJ h];simp
 rw[ap ab,ap hj]
theorem tB.rP{fp:List af}(h:(tB e q vs).P H fp)(b:o+ws.length<=vs.length)(h1:cL ws=true):∃H' a,fS H q o ws=some H'/\lr fp a H H'/\(tB e q (sp vs o ws)).P H' a:=by
 obtain⟨g,h2,c,h3,i,p⟩:=h;have hd:(decide (0<=o)&&decide (o+ws.length<=vs.length)&&cL ws)=true:=by simp only[ae9,decide_eq_true_eq,h1,and_true];omega
 refine⟨(H.dN []).set q (.cells (dY c o ws) vs.length e true [] 0),[q],by simp only[fS,h3,hd,bf],⟨Nat.le_of_eq (by rw[ah.d8];rfl),λj hj=>?_,λj hj r=>?_⟩,abx.2 rfl,λj hj=>abx.1 hj,dY c o ws,?_,λj hj=>?_,by rw[ah.d8];exact p⟩;·rw[abx]at hj;subst hj;exact .inl g
 .rw[ah.aC,ap λe:j=q=>hj (by rw[e];exact g)];rfl
 .rw[ah.aC,aJ rfl,GZ b]
 rw[GZ b]at hj;rw[lh];have:=Mb b j;rw[getElem?_pos (sp vs o ws) j (by rw[GZ b];exact hj)]at this;split;·rename_i f;rw[aJ f,getElem?_pos ws _ ab]at this;injection this with this;simp only[afz];rw[getElem?_pos ws _ ab];simp[this]
 rename_i f;rw[ap f,getElem?_pos vs _ hj]at this;injection this with this;rw[i j hj,this]
theorem RO.iC(U:aq A H ts)(i:Nat){x:aL}(h:RO ac c l s (bq L d v) H)(a:aW L x=.aE q o:=by exact cw)(hi:ts[i]?=some (tB e q vs):=by rfl)(b:vs[o]?=some v:=by rfl):RO ac c (⟨d,.bi x,none,[],[]⟩::l) s L H:=by obtain⟨fp,f⟩:=U.get i hi;exact RO.bi h a (tB.cell f b)
theorem RO.dj(U:aq A H ts)(i:Nat){x:aL}(h:RO ac c l s (bq L d (.agg ((vs.drop o).take m))) H)(a:aW L x=.aE q o:=by exact cw)(hi:ts[i]?=some (tB e q vs):=by rfl)(hm:o+m<=vs.length:=by first|decide|exact afx rfl|simp|omega):RO ac c (⟨d,.gR m x,none,[],[]⟩::l) s L H:=by obtain⟨fp,b⟩:=U.get i hi;exact RO.gR h a (tB.lV b hm)
theorem RO.dM(U:aq A H ts)(i:Nat){x:aL}(h:RO ac c l s (bq L d v) H)(a:aW L x=.aE q o:=by exact cw)(hi:ts[i]?=some (tS e size vs n full (.slice q 0 n cap ex)):=by rfl)(hv:vs[o]?=some v:=by rfl):RO ac c (⟨d,.bi x,none,[],[]⟩::l) s L H:=by obtain⟨fp,b⟩:=U.get i hi;exact RO.bi h a (cM.GY b hv)
theorem RO.ez(U:aq A H ts)(i:Nat){a x:aL}(h:∀H',aq A H' (ts.set i (tB e q (vs.set o w)))->RO ac c l s (bq L d .ahp) H')(f:aW L a=.aE q o:=by exact cw)(g:aW L x=w:=by exact cw)(hi:ts[i]?=some (tB e q vs):=by rfl)(j:o<vs.length:=by first|decide|exact afx rfl|simp|omega)(p:w.dg=true:=by first|rfl|assumption)(b:w.cells=[w]:=by first|rfl|assumption)(hd:w.bC=true:=by first|rfl|assumption):RO ac c (⟨d,.store 1 a x,none,[],[]⟩::l) s L H:=by obtain⟨fp,r,_,hu⟩:=U.iJ i hi;obtain⟨H',t,h1,h2,h3⟩:=tB.rP (o:=o) (ws:=[w]) r (by simp only[af2];omega) (by simp[cL,p]);rw[T4 j]at h3;exact RO.store (by rw[b];exact h1) (h H' (hu h2 h3)) f g hd (by rw[b];rfl)
theorem RO.fc(U:aq A H ts)(i:Nat){a x:aL}(h:∀H',aq A H' (ts.set i (tB e q (sp vs o ws)))->RO ac c l s (bq L d .ahp) H')(b:aW L a=.aE q o:=by exact cw)(f:aW L x=.agg ws:=by exact cw)(hi:ts[i]?=some (tB e q vs):=by rfl)(g:o+ws.length<=vs.length:=by first|decide|exact afx rfl|simp|omega)(j:ws.length=n:=by first|rfl|simp)(p:cL ws=true:=by repeat first|rfl|assumption|(refine ao ?_ ?_)):RO ac c (⟨d,.store n a x,none,[],[]⟩::l) s L H:=by obtain⟨fp,r,_,hu⟩:=U.iJ i hi;obtain⟨H',t,h1,h2,h3⟩:=tB.rP (ws:=ws) r g p;exact RO.store (v:=.agg ws) h1 (h H' (hu h2 h3)) b f rfl j
theorem Mc.set{b:Type}{f:b->AV}{a:List b}(h:cM H fp e 1 (a.map f) a.length full (.slice q 0 a.length cap ex))(g:k<a.length)(z:b)(h1:(f z).dg=true):∃H',fS H q (0+k*1) [f z]=some H'/\lr fp [q] H H'/\cM H' [q] e 1 ((a.set k z).map f) (a.set k z).length full (.slice q 0 (a.set k z).length cap ex):=by
 have i:=(cM.mem h).2.1;have:=cM.rP h (o:=0+k*1) (ws:=[f z]) (us:=(a.set k z).map f) (by simp;omega) (by simp[cL,h1]) aF λj hj=>by
  simp only[afJ]at hj;simp only[af0,List.getElem?_set,af2];by_cases e:k=j;·subst e;rw[aJ rfl,aJ ab];simp[g]
  rw[ap e,ap ab]
 rw[agC];exact this
theorem RO.kq{b:Type}{f:b->AV}{zs:List b}(U:aq A H ts)(i:Nat)(z:b)(j:zs.length=n){a x:aL}(h:∀H',aq A H' (ts.set i (tS e 1 ((zs.set k z).map f) n full (.slice q 0 n cap ex)))->RO ac c l s (bq L d .ahp) H')(p:aW L a=.aE q (0+k*1):=by exact cw)(r:aW L x=f z:=by exact cw)(hi:ts[i]?=some (tS e 1 (zs.map f) n full (.slice q 0 n cap ex)):=by rfl)(ho:k<zs.length:=by first|omega|assumption)(t:(f z).dg=true:=by first|rfl|assumption)(g:(f z).cells=[f z]:=by first|rfl|assumption)(hd:(f z).bC=true:=by first|rfl|assumption):RO ac c (⟨d,.store 1 a x,none,[],[]⟩::l) s L H:=by subst j;obtain⟨fp,u,_,hu⟩:=U.iJ i hi;obtain⟨H',h1,h2,h3⟩:=Mc.set (k:=k) u ho z t;refine RO.store (by rw[g];exact h1) (h H' ?_) p r hd (by rw[g];rfl);have:=hu (t':=tS e 1 ((zs.set k z).map f) (zs.set k z).length full (.slice q 0 (zs.set k z).length cap ex)) h2 h3;rw[agC]at this;exact this
theorem mY{b:Type}{f:b->AV}{a:List b}(z:b)(g:k<a.length):(a.map f)[0+k*1]?=some (f (a.getD k z)):=by rw[show 0+k*1=k by omega,af0,getElem?_pos a k g];simp[g]
theorem tB.new(e:Nat)(vs:List AV)(H:ah):(tB e H.next vs).P (H.new (.cells (bX vs) vs.length e true [] 0)) [H.next]:=⟨abx.2 rfl,λj hj=>abx.1 hj,bX vs,by rw[ah.cz,aJ rfl],λj hj=>wl hj,by rw[ah.lU];omega⟩
theorem rS(H:ah):px H [H.next]:=λj hj=>by rw[abx]at hj;subst hj;exact adv _
theorem aq.Md(U:aq A H ts)(e:Nat)(vs:List AV):aq A (H.new (.cells (bX vs) vs.length e true [] 0)) (tB e H.next vs::ts):=U.push (aZ.new H _) (tB.new e vs H) (rS H)
theorem RO.dp(U:aq A H ts){x:aL}(h:∀H' q,aq A H' (tB e q v.cells::ts)->RO ac c l s (bq L d (.aE q 0)) H')(a:aW L x=v:=by exact cw)(b:v.bC=true:=by first|rfl|assumption)(ho:cL v.cells=true:=by repeat first|rfl|assumption|(refine ao ?_ ?_)):RO ac c (⟨d,.box e x,none,[],[]⟩::l) s L H:=RO.box (h _ _ (U.Md e v.cells)) a b ho
theorem RO.eL(U:aq A H ts){a:List AV}(h:∀H' q,aq A H' (tB e q a::ts)->RO ac c l s (bq L d (.aE q 0)) H'):RO ac c (⟨d,.alloc e a,none,[],[]⟩::l) s L H:=RO.alloc (h _ _ (U.Md e a))
theorem RO.ff(U:aq A H ts){p:af}{a us:List AV}{x:aL}{xv:AV}(h:∀H' q,aq A H' (tB e q us::ts)->RO ac c l s ((p,.aE q 0)::L) H')(i:∀w,aW ((p,w)::L) x=xv:=by(intro w;conv=>lhs;whnf)<;>rfl)(f:xv.cells=us:=by first|rfl|assumption)(j:us.length=n:=by first|rfl|simp)(C:a.length=n:=by rfl)(h1:cL us=true:=by repeat first|rfl|assumption|(refine ao ?_ ?_))(hd:xv.bC=true:=by first|rfl|assumption):RO ac c (⟨some p,.alloc e a,none,[],[]⟩::⟨none,.store n (.t p) x,none,[],[]⟩::l) s L H:=by
 refine RO.eL U λD q b=>?_;obtain⟨fp,r,_,hu⟩:=b.iJ 0 rfl;obtain⟨H',B,u,y,g⟩:=tB.rP (o:=0) (ws:=us) r ab h1;have z:sp a 0 us=us:=by simp[sp,List.drop_eq_nil_of_le (show a.length<=us.length by omega)]
 rw[z]at g;exact RO.store (i:=q) (o:=0) (v:=xv) (by rw[f];exact u) (h H' q (hu y g)) (by show lk (bq L (some p) _) p=_;simp only[bq,lk,af.eS.2 rfl]) (i _) hd (by rw[f];exact j)
theorem RO.ls(U:aq A H ts){a:List AV}{x y:aL}(h:∀H' q,aq A H' (tS e size (eo a n) n true (.slice q 0 n n true)::ts)->RO ac c l s (bq L d (.slice q 0 n n true)) H')(hx:aW L x=.int 3 (.ofNat n):=by exact cw)(hy:aW L y=.int 3 (.ofNat n):=by exact cw)(hz:(eo a n).length=n*size)(hb:n*bytes<=70368744177664:=by omega)(b:n<=70368744177664:=by omega):RO ac c (⟨d,.nI e bytes size a x y,none,[],[]⟩::l) s L H:=RO.nI (h _ _ (U.push (aZ.new H _) (cM.new hz true true) (rS H))) hx hy
theorem io(z:AV):∀n,eo [z] n=aeN n z|0=>rfl|n+1=>by simp only[eo,io z n];rfl
theorem RO.lW(U:aq A H ts)(size:Nat){b:List AV}(h:∀H' v,aq A H' (tS e size [] 0 true v::ts)->RO ac c l s (bq L d v) H'):RO ac c (⟨d,.buildSlice e 0 b [],none,[],[]⟩::l) s L H:=RO.T1 (size:=size) λH' a f h1 h2 h3=>h H' a (U.push h2 h1 h3)
theorem aq.qE(U:aq A H ts)(e size:Nat):aq A H (tS e size [] 0 true .aH::ts):=U.push (fp:=[]) (aZ.refl H) (.inl ⟨rfl,rfl,rfl,rfl⟩) λj hj=>by cases hj
theorem RO.lu(U:aq A H ts)(i:Nat){x y:aL}{b:AV}{f:List AV}(hs:Sl H size ws k b)(h:∀H' v,aq A H' (ts.set i (tS e size (vs++ws) (n+k) true v))->RO ac c l s (bq L d v) H')(hi:ts[i]?=some (tS e size vs n true sv):=by rfl)(h1:cL ws=true:=by repeat first|rfl|assumption|(refine ao ?_ ?_))(g:aW L x=sv:=by exact cw)(j:aW L y=b:=by exact cw)(hb:(n+k)*bytes<=70368744177664:=by omega)(p:n+k<=70368744177664:=by omega):RO ac c (⟨d,.append e bytes size f false x y,none,[],[]⟩::l) s L H:=by obtain⟨fp,r,_,hu⟩:=U.iJ i hi;exact RO.T2 r hs h1 (λa H' z t u=>h H' a (hu u t)) g j hb p
theorem RO.push(U:aq A H ts)(i:Nat){p:af}{x:aL}{b:List (Nat×Nat×aL)}{f a:List AV}(h:∀w H' v,aq A H' (ts.set i (tS e size (vs++ws) (n+1) true v))->RO ac c l s (bq ((p,w)::L) d v) H')(hi:ts[i]?=some (tS e size vs n true sv):=by rfl)(hl:mB L (eo f 1) b=some ws:=by exact cw)(j:ws.length=size:=by first|rfl|simp)(h1:cL ws=true:=by repeat first|rfl|assumption|(refine ao ?_ ?_))(g:∀w,aW ((p,w)::L) x=sv:=by(intro w;conv=>lhs;whnf)<;>rfl)(hb:(n+1)*bytes<=70368744177664:=by omega)(hn:n+1<=70368744177664:=by omega):RO ac c (⟨some p,.buildSlice e 1 f b,none,[],[]⟩::⟨d,.append e bytes size a false x (.t p),none,[],[]⟩::l) s L H:=by
 refine RO.buildSlice ?_ hl h1;have hg:aZ H (H.new (.cells (bX ws) ws.length e true [] 0)):=aZ.new H _;have hs:Sl (H.new (.cells (bX ws) ws.length e true [] 0)) size ws 1 (.slice H.next 0 1 1 true):=by have:=(cM.new (H:=H) (e:=e) (size:=size) (n:=1) (vs:=ws) ab true true).sl;rw[show ws.length=1*size by omega];exact this
 exact RO.lu (U.cq hg) i hs (λH' v h2=>h _ H' v h2) hi h1 (g _) (by show lk (bq L (some p) _) p=_;simp only[bq,lk,af.eS.2 rfl]) hb hn
theorem RO.kr(U:aq A H ts)(size:Nat){a:List (Nat×Nat×aL)}{b:List AV}(h:∀H' q,aq A H' (tS e size ws n true (.slice q 0 n n true)::ts)->RO ac c l s (bq L d (.slice q 0 n n true)) H')(hl:mB L (eo b n) a=some ws:=by exact cw)(f:ws.length=n*size:=by rfl)(h1:cL ws=true:=by repeat first|rfl|assumption|(refine ao ?_ ?_)):RO ac c (⟨d,.buildSlice e n b a,none,[],[]⟩::l) s L H:=by refine RO.buildSlice ?_ hl h1;rw[f];exact h _ _ (U.push (aZ.new H _) (cM.new f true true) (rS H))
theorem aq.rQ(U:aq A H ts)(i:Nat)(hi:ts[i]?=some (tS e size vs n full sv))(a:n≠0):∃q cap ex,sv=.slice q 0 n cap ex:=by obtain⟨fp,b⟩:=U.get i hi;exact cM.rQ b a
theorem Sl.all(h:Sl H size vs n sv):sv.bC=true/\sv.dg=true/\sv.cells=[sv]/\lenOf sv=some n:=⟨h.bC,h.dg,h.cells,h.len⟩
theorem aq.sl(U:aq A H ts)(i:Nat)(hi:ts[i]?=some (tS e size vs n full sv):=by rfl):Sl H size vs n sv:=by obtain⟨fp,a⟩:=U.get i hi;exact cM.sl a
theorem up{P:Nat->Prop}(n:Nat)(h:∀k,k<=n->(∀j,k<j->j<=n->P j)->P k):∀k,k<=n->P k:=by
 have:∀d k,n - k=d->k<=n->P k:=by intro d;induction d using Nat.strongRecOn with|ind d b=>intro k hd a;exact h k a λj h1 h2=>b (n - j) ab j rfl h2
 exact λk a=>this _ k rfl a
end
end Go.al
namespace Go.G
structure d9 where
 op:Nat
 to:Int
 args:List Int
 n:Int
 m:Int
 i7:List Nat
 deriving Inhabited
structure Edge where
 block:Int
 args:List Int
 deriving Inhabited
structure fg where
 op:Nat
 args:List Int
 i7:List Nat
 bu:List Nat
 go:List Edge
 deriving Inhabited
structure dW where
 i4:List Int
 aS:List d9
 aB:fg
 deriving Inhabited
structure be where
 i7:List Nat
 i4:Int
 bc:Int
 aj:List dW
 deriving Inhabited
end Go.G
namespace Go.G
structure Sm(g:be):Prop where
 nb:g.aj.length<=5000
 bl:∀b∈g.aj,b.i4.length<=12/\b.aS.length<=40/\b.aB.args.length<=12/\b.aB.bu.length<=12/\b.aB.go.length<=12/\b.aB.i7.length<=60
 st:∀b∈g.aj,∀s∈b.aS,s.args.length<=12/\s.i7.length<=250
 ed:∀b∈g.aj,∀e∈b.aB.go,e.args.length<=12
end Go.G
namespace Go.al
abbrev aU(n:Nat):AV:=.int 4 (.ofNat n)
abbrev G0(H:ah)(l:List Nat)(sv:AV):Prop:=Sl H 1 (l.map aU) l.length sv
def cP{f:Type}(size:Nat)(R:ah->f->List AV->Prop)(H:ah)(l:List f)(sv:AV):Prop:=
 ∃a,Sl H size a l.length sv/\∀k(h:k<l.length),R H l[k] ((a.drop (k*size)).take size)
def cY{f e:Type}(R:ah->f->e->Prop):Prop:=∀{H g:ah}{a:f}{b:e},aZ H g->R H a b->R g a b
def oz(H:ah)(e:G.Edge)(cs:List AV):Prop:=∃v,cs=[aI e.block,v]/\eU H e.args v
def oB(H:ah)(s:G.d9)(cs:List AV):Prop:=∃v,cs=[aU s.op,aI s.to,v,aI s.n,aI s.m,.str s.i7]/\eU H s.args v
def py(H:ah)(j:G.fg)(cs:List AV):Prop:=∃a b e,cs=[aU j.op,a,.str j.i7,b,e]/\eU H j.args a/\G0 H j.bu b/\cP 2 oz H j.go e
def ji(H:ah)(b:G.dW)(cs:List AV):Prop:=∃a e g,cs=a::e::g/\eU H b.i4 a/\cP 6 oB H b.aS e/\py H b.aB g
def gu(H:ah)(g:G.be)(cs:List AV):Prop:=∃a,cs=[.str g.i7,aI g.i4,aI g.bc,a]/\cP 7 ji H g.aj a
theorem cY.lx{f:Type}{size:Nat}{R:ah->f->List AV->Prop}(a:cY R):cY (cP size R):=λg⟨b,h1,h2⟩=>⟨b,g.sl h1,λk h=>a g (h2 k h)⟩
theorem cY.G1:cY oz:=λg⟨v,h1,h2⟩=>⟨v,h1,g.sl h2⟩
theorem cY.step:cY oB:=λg⟨v,h1,h2⟩=>⟨v,h1,g.sl h2⟩
theorem cY.Cs:cY py:=λg⟨a,b,e,h1,h2,h3,h⟩=>⟨a,b,e,h1,g.sl h2,g.sl h3,cY.G1.lx g h⟩
theorem cY.block:cY ji:=λg⟨a,b,e,h1,h2,h3,h⟩=>⟨a,b,e,h1,g.sl h2,cY.step.lx g h3,cY.Cs g h⟩
theorem cY.jk:cY gu:=λg⟨a,h1,h2⟩=>⟨a,h1,cY.block.lx g h2⟩
variable{f:Type}{size n k:Nat}{R:ah->f->List AV->Prop}{H:ah}{la:List f}{sv:AV}
theorem cP.len(h:cP size R H la sv):lenOf sv=some la.length:=by obtain⟨a,h,_⟩:=h;exact h.len
theorem cP.bC(h:cP size R H la sv):sv.bC=true:=by obtain⟨a,h,_⟩:=h;exact h.bC
theorem cP.dg(h:cP size R H la sv):sv.dg=true:=by obtain⟨a,h,_⟩:=h;exact h.dg
theorem cP.cells(h:cP size R H la sv):sv.cells=[sv]:=by obtain⟨a,h,_⟩:=h;exact h.cells
theorem cP.all(h:cP size R H la sv):sv.bC=true/\sv.dg=true/\sv.cells=[sv]/\lenOf sv=some la.length:=⟨h.bC,h.dg,h.cells,h.len⟩
theorem cP.at(h:cP size R H la sv)(g:k<la.length):∃q o cap ex cs,sv=.slice q o la.length cap ex/\R H la[k] cs/\cs.length=size/\(∀j v,cs[j]?=some v->bx H q (o+k*size+j)=some v)/\dK H q (o+k*size) size=some cs:=by
 obtain⟨i,h1,h2⟩:=h;have hl:=h1.length;have a:k*size+size<=i.length:=by rw[hl,<-Nat.succ_mul];exact afN _ g
 obtain⟨q,o,cap,ex,e,_,_,m,p⟩:=h1.at ab;refine⟨q,o,cap,ex,_,e,h2 k g,by rw[afH,agv];omega,λj v hj=>?_,?_⟩
 .rw[List.getElem?_take]at hj;split at hj;·rw[List.getElem?_drop]at hj;obtain⟨b,e⟩:=af3.1 hj;rw[agM,m _ b,e]
  cases hj
 exact p (k*size) size a
theorem oz.one{e:G.Edge}{cs:List AV}(h:oz H e cs):cL cs=true:=by obtain⟨v,rfl,h⟩:=h;exact ao rfl (ao h.dg rfl)
theorem oB.one{e:G.d9}{cs:List AV}(h:oB H e cs):cL cs=true:=by obtain⟨v,rfl,h⟩:=h;exact ao rfl (ao rfl (ao h.dg rfl))
theorem py.one{e:G.fg}{cs:List AV}(h:py H e cs):cL cs=true:=by obtain⟨a,b,g,rfl,h1,h2,h3⟩:=h;exact ao rfl (ao h1.dg (ao rfl (ao h2.dg (ao h3.dg rfl))))
theorem ji.one{e:G.dW}{cs:List AV}(h:ji H e cs):cL cs=true:=by obtain⟨a,b,g,rfl,h1,h2,h3⟩:=h;exact ao h1.dg (ao h2.dg h3.one)
theorem gu.one{e:G.be}{cs:List AV}(h:gu H e cs):cL cs=true:=by obtain⟨v,rfl,h⟩:=h;exact ao rfl (ao rfl (ao rfl (ao h.dg rfl)))
variable{ac:Nat->aX}{c:Cx}{s:List SI}{L:Kn}{d:Option af}{l:List bA}
theorem RO.bY{B:ah}(hg:aZ B H){x y:aL}{j kd:Nat}(hs:cP size R B la sv)(h:∀q o cs(hj:j<la.length),R B la[j] cs->cs.length=size->(∀t v,cs[t]?=some v->bx H q (o+t)=some v)->dK H q o size=some cs->RO ac c l s (bq L d (.aE q o)) H)(g:aW L x=sv:=by exact cw)(m:aW L y=.int kd (.ofNat j):=by exact cw)(hj:j<la.length:=by first|assumption|omega):RO ac c (⟨d,.ch size x y,none,[],[]⟩::l) s L H:=by
 obtain⟨q,o,cap,ex,cs,rfl,h1,h2,h3,p⟩:=hs.at hj;have b:∀t,bx H q t=bx B q t/\dK H q t size=dK B q t size:=λt=>by
  obtain⟨u,r,_⟩:=hs;have a:q.am<B.next.am:=by
   rcases r with⟨h,_⟩|⟨i,_,_,_,_,_,_,_,_,_,h,_,_,_,_,hi,_⟩;·cases h
   injection h with h;subst h;exact hi
  exact⟨hg.bx a t,by simp only[dK,hg.cG q a]⟩
 exact RO.ch (h q (o+j*size) cs hj h1 h2 (λt v e=>(b _).1.trans (h3 t v e)) ((b _).2.trans p)) g m hj
theorem RO.mD{B:ah}(hg:aZ B H){a:List Int}{x y:aL}{j kd:Nat}(hs:eU B a sv)(h:∀q o(hj:j<a.length),bx H q o=some (aI a[j])->RO ac c l s (bq L d (.aE q o)) H)(e:aW L x=sv:=by exact cw)(g:aW L y=.int kd (.ofNat j):=by exact cw)(hj:j<a.length:=by first|assumption|omega):RO ac c (⟨d,.ch 1 x y,none,[],[]⟩::l) s L H:=RO.T0 (hg.sl hs) (λq o z b i _=>h q o hj (by rw[getElem?_pos a j hj]at b;injection b with b;rw[i,b])) e g hj
theorem RO.fO{B:ah}(hg:aZ B H){m:f->AV}{x y:aL}{j kd:Nat}(hs:Sl B 1 (la.map m) la.length sv)(h:∀q o(hj:j<la.length),bx H q o=some (m la[j])->RO ac c l s (bq L d (.aE q o)) H)(b:aW L x=sv:=by exact cw)(e:aW L y=.int kd (.ofNat j):=by exact cw)(hj:j<la.length:=by first|assumption|omega):RO ac c (⟨d,.ch 1 x y,none,[],[]⟩::l) s L H:=RO.bY (R:=λ_ a cs=>cs=[m a]) hg ⟨_,hs,λk g=>by rw[agU,afv (by simpa using g)];simp⟩ (λq o cs hj i _ hat _=>h q o hj (by subst i;exact hat 0 _ rfl)) b e hj
theorem RO.T5{B:ah}{p:List AV}{n e:Nat}{x y:aL}{b k:Nat}(hs:Sl B size p n sv)(h:∀a,Sl B size (p.take (b*size)) b a->RO ac c l s (bq L d a) H)(q:aW L x=sv:=by exact cw)(r:aW L y=.int k (.ofNat b):=by exact cw)(hb:b<=n:=by omega):RO ac c (⟨d,.gD e size x none (some y) none,none,[],[]⟩::l) s L H:=by
 rcases hs with⟨rfl,rfl,rfl⟩|⟨i,o,cap,ex,u,m,v,g,aM,fz,rfl,hg,A,hl,w,hi,t⟩;·have:b=0:=ab;subst this;refine RO.Cp (m:=0) (b:=0) (a:=0) q rfl ?_ rfl (h _ (.inl ⟨rfl,rfl,aF⟩));simp only[iI,r];exact mX (adv _)
 refine RO.gD (m:=cap) (b:=b) (a:=0) q rfl ?_ rfl aF ?_;·simp only[iI,r];exact mX ab
 have z:(if ex&&decide (cap=0)then o else o+0*size)=o:=by split<;>omega
 rw[z,ahg,ahg];have bW:b*size<=n*size:=afN _ hb;refine h _ (.inr ⟨i,o,cap,_,u,m,v,g,aM,fz,rfl,hg,ab,?_,λj hj=>?_,hi,ab⟩);·rw[afH];omega
 rw[afH]at hj;rw[w j ab];simp
theorem RO.T6{r:List AV}{n e:Nat}{x y:aL}{b k o cap:Nat}{q:af}(hs:Sl H size r n (.slice q o n cap true))(h:∀a,Sl H size (r.drop (b*size)) (n - b) a->RO ac c l s (bq L d a) H)(v:aW L x=.slice q o n cap true:=by exact cw)(hy:aW L y=.int k (.ofNat b):=by exact cw)(hb:b<=n:=by omega):RO ac c (⟨d,.gD e size x (some y) none none,none,[],[]⟩::l) s L H:=by
 rcases hs with⟨h0,_⟩|⟨i,C,t,ex,w,m,z,g,aM,fz,h0,hg,D,hl,A,hi,u⟩;·cases h0
 injection h0 with h1 h2 _ h3 B;subst h1;subst h2;subst h3;subst B;refine RO.gD (m:=cap) (b:=n) (a:=b) v rfl (by simp[iI]) ?_ aF ?_;·simp only[iI,hy];exact mX hb
 have bW:b*size<=n*size:=afN _ hb;refine h _ (.inr ⟨q,_,_,_,w,m,z,g,aM,fz,rfl,hg,?_,?_,λj hj=>?_,hi,ab⟩);·rw[Nat.sub_mul];split<;>omega
 .rw[agv,hl,Nat.sub_mul]
 rw[agv]at hj;split;·rename_i p;simp only[ahb,decide_eq_true_eq]at p;have:b=n:=ab;subst this;omega
 rw[agM,A (b*size+j) ab];simp
theorem RO.T7{B:ah}{e:Nat}{x y:aL}{b k:Nat}(hs:cP size R B la sv)(h:∀a,cP size R B (la.take b) a->RO ac c l s (bq L d a) H)(i:aW L x=sv:=by exact cw)(j:aW L y=.int k (.ofNat b):=by exact cw)(hb:b<=la.length:=by omega):RO ac c (⟨d,.gD e size x none (some y) none,none,[],[]⟩::l) s L H:=by obtain⟨m,h1,h2⟩:=hs;refine RO.T5 h1 (λa h3=>h a ⟨_,by rw[afH,agZ hb];exact h3,λk g=>?_⟩) i j hb;rw[afH,agZ hb]at g;have:=h2 k ab;rw[List.getElem_take,List.drop_take,List.take_take,agZ (by have:(k+1)*size<=b*size:=afN _ g;rw[Nat.succ_mul]at this;omega)];exact this
def pk(M:Kn):List af->Kn
 |[]=>[]
 |p::l=>(p,lk M p)::pk M l
theorem Ru.nm{H:ah}(h:∀S M,S=s->M=L->Ru ac c S M H):Ru ac c s L H:=h s L rfl rfl
theorem iW.pk(M:Kn):∀a,iW (pk M a) M|[]=>trivial|_::l=>⟨rfl,iW.pk M l⟩
theorem iW.mZ{M K:Kn}(h2:iW K M):∀{l:Kn},iW l M->iW (l++K) M|[],_=>h2|_::_,h=>⟨h.1,iW.mZ h2 h.2⟩
theorem Ru.bT{M L b8:Kn}{a:List af}{H:ah}(b:M=L)(h:Ru ac c s (b8++pk M a) H)(hl:iW b8 L:=by repeat'(first|exact trivial|refine⟨rfl,?_⟩)):Ru ac c s M H:=h.pv (iW.mZ (iW.pk M a) (by rw[b];exact hl))
theorem Ru.wk{M:Kn}{H:ah}(h:Ru ac c s L H)(hl:iW L M:=by repeat'(first|exact trivial|refine⟨rfl,?_⟩)):Ru ac c s M H:=h.pv hl
end Go.al
namespace Go.al.R
section
open Go.al Go.Proofs
abbrev bH(n:Nat):={a:aX//(Tryz.prog.funcs[n]?).bind (oX Tryz.prog)=some a}
abbrev Ct:Program:={toTables:=Tryz.progTables,funcs:= #[]}
def pz(n:Nat):Code->Option bg
 |.region _ o d=>do
  let l<-o.toList.mapM (nT Ct n o)
  some (.region (if d then md l (Region.before o) none [] (order l (Region.before o) o.size 0 [])else l))
 |.seq a b=>do
  let a<-pz n a
  let b<-pz n b
  some (match Ov.dD (.seq a b)with
   |some t=>.dD t
   |none=>.seq a b)
 |.cond c a b=>do some (.cond (<-eC Ct n c) (<-pz n a) (<-pz n b))
 |.block i b=>(pz n b).map (.block i)
 |.loop b=>(pz n b).map .loop
 |.rangeFunc f p a b=>do some (.rangeFunc (<-eC Ct n f) (p.toList.map af.cr) (<-pz n a) (<-pz n b))
 |.scope b=>pz n b
 |.exit i=>some (.exit i)
 |.ret=>some .ret
 |_=>some .skip
def T8(f:Func):Option aX:=do some (.code f.ntmps (<-f.results.toList.mapM (u6 Ct f.ntmps)) (<-pz f.ntmps (<-f.body)))
theorem T9(n:Nat): @OfNat.ofNat Int n (@instOfNat n)=age (@OfNat.ofNat Nat n (instOfNatNat n)):=rfl
theorem T'(n:Nat): -age (n+1)=Int.negSucc n:=rfl
theorem bI{a b:aX}{o:Option aX}(f:Func)(h:T8 f=some a:=by cbv)(e:a=b:=by simp -failIfUnchanged only[T9,T'];rfl)(k:o=some b:=by kernel_rfl):o=some b:=k
end
end Go.al.R
end
