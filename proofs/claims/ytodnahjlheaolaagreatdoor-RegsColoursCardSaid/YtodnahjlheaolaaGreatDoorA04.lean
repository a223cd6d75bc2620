/- A part. No conditions. -/
import Derived.Test.YtodnahjlheaolaaGreatDoorA03
import Derived.Test.YtodnahjlheaolaaGreatDoorProg
import Derived.KernelRfl
set_option linter.all false
open List renaming replicate->ab7
open Nat renaming beq->ahr,blt->ahO,ble->aih
open Int renaming ofNat->ah0
open Eq renaming mpr->ai5
noncomputable section
namespace Go.al
variable{D H H':ai}{E V vs:List AV}{b m:Nat}{J:Option ah}{N:List bD}{x:aJ}{W v:AV}{Q:Bool}{l p:ah}{A:az AV}{Z g:bw}{d:KT}{f:List aJ}{h:List gO}{t:Type}{q:bJ}{y:Prop}
section
theorem cw{a b:t}(h:a=b:=by(conv=>lhs;whnf)<;>rfl):a=b:=h
theorem dw(h:y:=by repeat'(first|exact trivial|refine⟨rfl,?_⟩)):y:=h
variable{ac:Nat->aX}
abbrev Kn:=List (ah×AV)
def lk:Kn->ah->AV
 |[],_=>.bQ
 |(q,v)::l,p=>match ah.beq q p with
  |true=>v
  |false=>lk l p
def Le(L:Kn)(af:az AV):Prop:=∀p v,lk L p=v->v=.bQ\/af.get .ai8 p=v
def aT(L:Kn):aJ->AV
 |.t p=>lk L p
 |.c v=>v
def bo(L:Kn)(d:Option ah)(v:AV):Kn:=
 match d with
 |some p=>(p,v)::L
 |none=>L
theorem Le.get{L:Kn}(h:Le L A)(b:lk L p=v)(a:v.bk=true):A.get .ai8 p=v:=by
 rcases h p v b with e|e;·rw[e]at a;cases a
 exact e
theorem Le.gv{L:Kn}(h:Le L A)(a:aT L x=v)(b:v.bk=true):gv A x=v:=by cases x with|t p=>exact h.get a b|c w=>trivial
theorem Le.set{L:Kn}(h:Le L A)(d:Option ah)(v:AV):Le (bo L d v) (aQ A d v):=by cases d with|none=>exact h|some p=>intro q w a;simp only[bo,aQ,lk]at a⊢;rw[az.aG];cases hb:ah.beq p q with|true=>rw[hb]at a;rw[aF (ah.ft.1 hb).symm];exact .inr a|false=>rw[hb]at a;rw[an λe=>by rw[e,ah.ft.2 rfl]at hb;cases hb];exact h q w a
def ja:Kn->Kn->Prop
 |[],_=>True
 |(p,v)::l,m=>lk m p=v/\ja l m
theorem ja.get:∀{l m:Kn},ja l m->∀p v,lk l p=v->v=.bQ\/lk m p=v|[],_,_,p,v,h=>.inl h.symm|(q,w)::l,m,h,p,v,a=>by simp only[lk]at a;cases hb:ah.beq q p with|true=>rw[hb]at a;rw[<-ah.ft.1 hb];exact .inr (h.1.trans a)|false=>rw[hb]at a;exact ja.get h.2 p v a
theorem Le.rP{L M:Kn}(h:ja L M)(a:Le M A):Le L A:=λp v b=>by
 rcases h.get p v b with e|e;·grind
 exact a p v e
inductive SI where
 |code(c:bw)
 |aE(id:Nat)
structure Cx where
 K:cC->Fr->ai->Prop
 M:List ah
 R:Option ah
def iP(ac:Nat->aX)(K:cC->Fr->ai->Prop):List SI->cC->Fr->ai->Prop
 |[],j,fr,H=>K j fr H
 |.code c::s,j,fr,H=>match j with
  |.none=>∃n,Xc ac n c fr H (iP ac K s)
  |j=>iP ac K s j fr H
 |.aE id::s,j,fr,H=>match j with
  |.exit i=>if ahr i id then iP ac K s .none fr H else iP ac K s (.exit i) fr H
  |j=>iP ac K s j fr H
def RJ(ac:Nat->aX)(c:Cx)(j:cC)(s:List SI)(L:Kn)(H:ai):Prop:=∀af,Le L af->iP ac c.K s j ⟨af,c.M,c.R⟩ H
def Ru(ac:Nat->aX)(c:Cx)(s:List SI)(L:Kn)(H:ai):Prop:=RJ ac c .none s L H
def RO(ac:Nat->aX)(c:Cx)(l:List bD)(s:List SI)(L:Kn)(H:ai):Prop:=∀af,Le L af->∃n,Xo ac n l ⟨af,c.M,c.R⟩ H (iP ac c.K s .none)
def YF(ac:Nat->aX)(f:AV)(args:List AV)(H:ai)(K:KT):Prop:=∃n,Xf ac n f args H K
abbrev YN(ac:Nat->aX)(f:Nat):=YF ac (.func f [] [])
variable{c:Cx}{s:List SI}{L:Kn}
theorem Ru.rP{M:Kn}(h:Ru ac c s L D)(hl:ja L M):Ru ac c s M D:=λaf a=>h af (a.rP hl)
theorem YF.mono{K:KT}(h:YF ac v E D K)(a:∀b D,K b D->d b D):YF ac v E D d:=by obtain⟨n,h⟩:=h;exact⟨n,h.mono (aeE _) a⟩
theorem kh{s:List SI}{fr:Fr}{K:cC->Fr->ai->Prop}(h:Xc ac m g fr D (iP ac K (.code Z::s))):∃k,Xc ac k g fr D λj fr D=>match j with|.none=>Xc ac k Z fr D (iP ac K s)|j=>iP ac K s j fr D:=by obtain⟨e,b⟩:=(xx ac m).exec (K:=λe j fr D=>match j with|.none=>Xc ac e Z fr D (iP ac K s)|j=>iP ac K s j fr D) (λe d j fr D a hj=>by cases j with|none=>exact hj.mono a λ_ _ _ h=>h|exit i=>omega|ret=>omega) ((mono ac m).exec (aeE _) (λj fr D hj=>by cases j with|none=>trivial|exit i=>exact⟨0,hj⟩|ret=>exact⟨0,hj⟩) h);refine⟨max m e,(show Xc ac m g fr D _ from b).mono (Nat.le_max_left ..) λj fr D hj=>?_⟩;cases j with|none=>exact(show Xc ac e Z fr D _ from hj).mono (Nat.le_max_right ..) λ_ _ _ h=>h|exit i=>omega|ret=>omega
theorem Ru.seq(h:Ru ac c (.code Z:: .code g::s) L D):Ru ac c (.code (.seq Z g)::s) L D:=λaf a=>by obtain⟨n,b⟩:=h af a;obtain⟨k,d⟩:=kh b;exact⟨k+1,Xc.seq d⟩
theorem Ru.loop(h:Ru ac c (.code Z:: .code (.loop Z)::s) L D):Ru ac c (.code (.loop Z)::s) L D:=λaf a=>by obtain⟨n,b⟩:=h af a;obtain⟨k,d⟩:=kh b;exact⟨k+1,Xc.loop d⟩
theorem Ru.region(h:RO ac c N s L D):Ru ac c (.code (.region N)::s) L D:=λaf a=>by obtain⟨n,b⟩:=h af a;exact⟨n+1,Xc.region b⟩
theorem Ru.skip(h:Ru ac c s L D):Ru ac c (.code .skip::s) L D:=λaf a=>⟨1,Xc.skip (h af a)⟩
theorem Ru.block(h:Ru ac c (.code Z:: .aE m::s) L D):Ru ac c (.code (.block m Z)::s) L D:=λaf a=>by obtain⟨n,b⟩:=h af a;exact⟨n+1,Xc.block (b.mono (aeE _) λj fr D hj=>by cases j<;>exact hj)⟩
theorem Ru.mU(h:Ru ac c (.code Z::s) L D)(b:aT L x=.bool true:=by exact cw):Ru ac c (.code (.cond x Z g)::s) L D:=λaf a=>by obtain⟨n,d⟩:=h af a;exact⟨n+1,Xc.mU (a.gv b rfl) d⟩
theorem Ru.lJ(h:Ru ac c (.code Z::s) L D)(b:aT L x=.bool false:=by exact cw):Ru ac c (.code (.cond x g Z)::s) L D:=λaf a=>by obtain⟨n,d⟩:=h af a;exact⟨n+1,Xc.lJ (a.gv b rfl) d⟩
theorem Ru.d9(h1:Q=true->Ru ac c (.code Z::s) L D)(h2:Q=false->Ru ac c (.code g::s) L D)(a:aT L x=.bool Q:=by exact cw):Ru ac c (.code (.cond x Z g)::s) L D:=by cases Q with|true=>exact Ru.mU (h1 rfl) a|false=>exact Ru.lJ (h2 rfl) a
theorem Ru.cond [Decidable y](h1:y->Ru ac c (.code Z::s) L D)(h2:¬y->Ru ac c (.code g::s) L D)(a:aT L x=.bool (decide y):=by exact cw):Ru ac c (.code (.cond x Z g)::s) L D:=Ru.d9 (λh=>h1 (of_decide_eq_true h)) (λh=>h2 (of_decide_eq_false h)) a
theorem Ru.exit(h:RJ ac c (.exit m) s L D):Ru ac c (.code (.exit m)::s) L D:=λaf a=>⟨1,Xc.exit (h af a)⟩
theorem Ru.ret(h:RJ ac c .ret s L D):Ru ac c (.code .ret::s) L D:=λaf a=>⟨1,Xc.ret (h af a)⟩
theorem Ru.aE(h:Ru ac c s L D):Ru ac c (.aE m::s) L D:=h
theorem RJ.code(h:RJ ac c (.exit m) s L D):RJ ac c (.exit m) (.code Z::s) L D:=h
theorem RJ.pC(h:Ru ac c s L D):RJ ac c (.exit m) (.aE m::s) L D:=λaf a=>by simp only[iP,ait,bg];exact h af a
theorem RJ.SQ(hi:ahr m b=false)(h:RJ ac c (.exit m) s L D):RJ ac c (.exit m) (.aE b::s) L D:=λaf a=>by simp only[iP,hi,abH,bF];exact h af a
theorem RJ.SR(h:RJ ac c .ret s L D):RJ ac c .ret (.code Z::s) L D:=h
theorem RJ.SS(h:RJ ac c .ret s L D):RJ ac c .ret (.aE m::s) L D:=h
theorem RJ.rQ:∀{s:List SI},RJ ac c .ret [] L D->RJ ac c .ret s L D|[],h=>h|.code _::_,h=>RJ.SR (RJ.rQ h)|.aE _::_,h=>RJ.SS (RJ.rQ h)
def zJ(i:Nat):List SI->Option (List SI)
 |[]=>none
 |.code _::s=>zJ i s
 |.aE id::s=>if ahr i id then some s else zJ i s
theorem RJ.EW:∀{s t:List SI},zJ m s=some t->Ru ac c t L D->RJ ac c (.exit m) s L D
 |[],_,h,_=>by cases h
 |.code _::s,t,h,k=>RJ.code (RJ.EW h k)
 |.aE id::s,t,h,k=>by
  simp only[zJ]at h;split at h;·simp_all[ahn,RJ.pC]
  rename_i e;exact RJ.SQ (by grind) (RJ.EW h k)
theorem Ru.exitTo{t:List SI}(k:Ru ac c t L D)(h:zJ m s=some t:=by rfl):Ru ac c (.code (.exit m)::s) L D:=Ru.exit (RJ.EW h k)
theorem RO.nil(h:Ru ac c s L D):RO ac c [] s L D:=λaf a=>⟨1,Xo.nil (h af a)⟩
theorem RO.op(he:∀af,Le L af->aH q af D=some (v,H'))(h:RO ac c N s (bo L J v) H'):RO ac c (⟨J,q,none,[],[]⟩::N) s L D:=λaf a=>by obtain⟨n,b⟩:=h _ (a.set J v);exact⟨n+1,Xo.op (he af a) b⟩
theorem RO.call(h:YF ac v E D λr b=>RO ac c N s (bo L J r) b)(j:aT L x=v:=by exact cw)(e:v.bk=true:=by first|rfl|assumption)(k:f.map (aT L)=E:=by rfl)(g:E.all AV.bk=true:=by first|rfl|assumption):RO ac c (⟨J,.call x f,none,[],[]⟩::N) s L D:=λaf a=>by
 obtain⟨n,l⟩:=h;have i:f.map (gv af)=E:=by subst k;refine aip λt o=>?_;exact a.gv rfl (aiv.1 g _ (ahG o))
 obtain⟨m,d⟩:=(xx ac n).call (K:=λm r b=>Xo ac m N ⟨aQ af J r,c.M,c.R⟩ b (iP ac c.K s .none)) (λm q r D d h=>h.mono d λ_ _ h=>h) ((mono ac n).call (aeE _) (λr b p=>p _ (a.set J r)) l);refine⟨max n m+1,Xo.call ?_⟩;rw[a.gv j e,i];exact(show Xf ac n v E D _ from d).mono (Nat.le_max_left ..) λr b h=>(show Xo ac m N _ b _ from h).mono (Nat.le_max_right ..) λ_ _ h=>h
def mc(a:List gO)(K:KT)(j:cC)(fr:Fr)(H:ai):Prop:=
 match j with
 |.exit _=>False
 |_=>match iI H fr.bA with
  |some H=>match fH fr.af H a with
   |some l=>K (gC l) H
   |none=>False
  |none=>False
abbrev tl(a:List gO)(K:KT):Cx:=⟨mc a K,[],none⟩
theorem J6:∀(l:List AV)(p q:ah)(t:az AV),(jL l p t).get .ai8 q=if p.ap<=q.ap/\q.ap<p.ap+l.length then l.getD (q.ap - p.ap) .ai8 else t.get .ai8 q
 |[],p,q,t=>by simp[jL,List.length_nil,an]
 |v::l,p,q,t=>by
  simp only[jL];rw[J6 l p.succ q (t.set .ai8 p v),ah.eP,az.aG];simp only[ahK];by_cases h1:p.ap+1<=q.ap/\q.ap<p.ap+1+l.length;·grind
  rw[an h1];by_cases h2:q=p;·grind
  rw[an h2,an];grind[ah.rC]
def tm:List AV->Nat->Kn
 |[],_=>[]
 |v::l,k=>(ah.cV k,v)::tm l (k+1)
theorem Le.tm:∀(l:List AV)(k:Nat)(af:az AV),(∀i(h:i<l.length),af.get .ai8 (ah.cV (k+i))=l[i])->Le (tm l k) af|[],_,_,_=>λp v h=>.inl h.symm|w::l,k,af,h=>λp v a=>by simp only[Go.al.tm,lk]at a;cases hb:ah.beq (ah.cV k) p with|true=>rw[hb]at a;rw[<-ah.ft.1 hb,<-a];exact .inr (h 0 aC)|false=>rw[hb]at a;exact Le.tm l (k+1) af (λi hi=>by have:=h (i+1) (by simpa using hi);grind) p v a
theorem Le.args(l:List AV):Le (Go.al.tm l 0) (jL l .xH .ch):=Le.tm l 0 _ λi hi=>by rw[J6,ah.kQ,ahw,aF (by grind[ah.ap])];simp[hi,ah.ap,Nat.add_sub_cancel,ahi,getElem?_pos,aii]
theorem YF.code(a:ac m=.code b h Z)(hl:(E++V++vs).length<=b)(f:Ru ac (tl h d) [.code Z] (tm (E++V++vs) 0) D):YF ac (.func m E vs) V D d:=by obtain⟨n,e⟩:=f _ (Le.args (E++V++vs));refine⟨n+1,?_⟩;simp only[Xf,fC,a];rw[aF (ahV hl)];refine Xc.mono (aeE _) (λj fr D hj=>?_) e;cases j with|exit i=>exact hj|none=>exact hj|ret=>exact hj
theorem YF.ji{g:List AV->ai->Option (AV×ai)}(a:ac m=.ji g)(hg:g (E++V++vs) D=some (v,H'))(h:d v H'):YF ac (.func m E vs) V D d:=by refine⟨1,?_⟩;simp_all[Xf,fC]
def uG(L:Kn):List gO->List AV->Prop
 |[],[]=>True
 |.tmp p::a,v::b=>lk L p=v/\v.bk=true/\uG L a b
 |_,_=>False
theorem uG.uH(a:Le L A):∀{b:List gO}{d:List AV},uG L b d->fH A H b=some d|[],[],_=>rfl|.tmp p::b,v::d,h=>by simp only[fH,uG.uH a h.2.2,ahQ,a.get h.1 h.2.1]|[],_::_,h=>h.elim|.tmp _::_,[],h=>h.elim|.cell .. ::_,[],h=>h.elim|.cell .. ::_,_::_,h=>h.elim
theorem RJ.aq{j:cC}(hj:j=.none\/j=.ret)(b:uG L h vs)(e:d (gC vs) H):RJ ac (tl h d) j [] L H:=λaf a=>by have:=b.uH (H:=H) a;rcases hj with rfl|rfl<;>simp only[iP,mc,iI,this]<;>exact e
theorem Ru.aq(a:uG L h vs)(b:d (gC vs) D):Ru ac (tl h d) [] L D:=RJ.aq (.inl rfl) a b
theorem Ru.jo{s:List SI}(a:uG L h vs)(b:d (gC vs) D):Ru ac (tl h d) (.code .ret::s) L D:=Ru.ret (RJ.rQ (RJ.aq (.inr rfl) a b))
theorem Ru.aL{s:List SI}(h:d v D)(a:lk L p=v:=by exact cw)(hd:v.bk=true:=by first|rfl|assumption):Ru ac (tl [.tmp p] d) (.code .ret::s) L D:=Ru.jo (vs:=[v]) ⟨a,hd,trivial⟩ h
theorem Ru.ki{s:List SI}(h:d (.tuple [v,W]) D)(e:lk L p=v:=by exact cw)(hd:v.bk=true:=by first|rfl|assumption)(a:lk L l=W:=by exact cw)(b:W.bk=true:=by first|rfl|assumption):Ru ac (tl [.tmp p,.tmp l] d) (.code .ret::s) L D:=Ru.jo (vs:=[v,W]) ⟨e,hd,a,b,trivial⟩ h
end
end Go.al
namespace Go.al.R
structure Kp(Q:Prop):Prop where
 q:Q
theorem as0{P Q:Prop}(k:Q)(h:Kp Q->P:=by intro k;(first|refine RO.bf ?_|refine RO.iY ?_|refine RO.zK ?_|refine RO.lss ?_|refine RO.nil ?_|refine Ru.skip ?_|refine Ru.aE ?_|refine RO.zL ?_|refine RO.neq ?_|refine RO.zM ?_|refine RO.eql ?_|refine RO.zN ?_|refine RO.gtr ?_|refine RO.zO ?_|refine RO.geq ?_|refine RO.zP ?_|refine RO.leq ?_|refine RO.zQ ?_|refine RO.aW ?_|refine RO.ee ?_|refine RO.extract ?_|refine RO.un ?_|refine RO.part ?_|refine RO.iX ?_|refine RO.build ?_|refine RO.k6 ?_|refine RO.mI ?_|refine Ru.mU ?_|refine Ru.lJ ?_|refine RO.rR ?_|refine RO.xy ?_);exact k.1):P:=h ⟨k⟩
theorem as7{P Q:Prop}(k:Q)(h:Kp Q->P:=by intro k;(first|refine as0 ?_|refine RO.BL ?_|refine RO.dH ?_|refine RO.rh ?_|refine RO.zR ?_|refine RO.zS ?_|refine RO.eo U 0 ?_|refine RO.eo U 1 ?_|refine RO.eo U 2 ?_|refine RO.eo U 3 ?_|refine RO.eo U 4 ?_|refine RO.aW ?_ (hc:=hat _ _ rfl)|refine RO.ee ?_ (hc:=hrd)|refine RO.kw ?_|refine RO.mK ?_|refine RO.nilCheck ?_|refine RO.xz ?_|refine RO.BM ?_);exact k.1):P:=h ⟨k⟩
theorem nO{P Q:Prop}(k:Q)(h:Kp Q->P:=by intro k;(first|refine Ru.region ?_|refine Ru.seq ?_|refine Ru.block ?_|refine as7 ?_);exact k.1):P:=h ⟨k⟩
theorem au{P Q:Prop}(k:Q)(h:Kp Q->P:=by intro k;(repeat(first|refine Ru.region ?_|refine Ru.seq ?_|refine Ru.block ?_|refine as0 ?_));exact k.1):P:=h ⟨k⟩
theorem aS{P Q:Prop}(k:Q)(h:Kp Q->P:=by intro k;(repeat(first|refine Ru.region ?_|refine Ru.seq ?_|refine Ru.block ?_|refine as0 ?_|refine RO.BL ?_|refine RO.dH ?_|refine RO.rh ?_|refine RO.zR ?_|refine RO.zS ?_|refine RO.eo U 0 ?_|refine RO.eo U 1 ?_|refine RO.eo U 2 ?_|refine RO.eo U 3 ?_|refine RO.eo U 4 ?_|refine RO.aW ?_ (hc:=hat _ _ rfl)|refine RO.ee ?_ (hc:=hrd)|refine RO.kw ?_|refine RO.mK ?_));exact k.1):P:=h ⟨k⟩
theorem ab{P Q:Prop}(k:Q)(h:Kp Q->P:=by intro k;(repeat refine nO ?_);exact k.1):P:=h ⟨k⟩
theorem gE{P Q:Prop}(k:Q)(h:Kp Q->P:=by intro k;(repeat refine as7 ?_);exact k.1):P:=h ⟨k⟩
theorem fy{P Q:Prop}(k:Q)(h:Kp Q->P:=by intro k;(repeat(first|refine RO.SU ?_|refine RO.SV ?_|refine nO ?_));exact k.1):P:=h ⟨k⟩
end Go.al.R
namespace Go.al
variable{B:List SI}{D H H' M S:ai}{E V av r vs ws:List AV}{a b bytes k m n o size u:Nat}{C:Cx}{F L:Kn}{I fp fp' w:List ah}{O x:aJ}{W v xv z:AV}{Q Y:Bool}{p:ah}{X:List (Nat×Nat×aJ)}{A:az AV}{e:List gN}{f:List aJ}{q:bJ}{J:Option ah}{N:List bD}{y:Prop}{d:KT}{t:Type}{fs:List (List ah)}
section
variable{ac:Nat->aX}{d:Option ah}{l:List bD}
theorem SW{n:Int}(h:(ck m).wrap n=n):gf m n=n:=by
 unfold gf;split;·split;all_goals trivial
 .split;·rfl
  exact h
 .split;all_goals trivial
 trivial
theorem mY{n:Int}(h1: -9223372036854775808<=n)(h2:n<9223372036854775808):gf 3 n=n:=by cases n with|ofNat m=>rw[ag0]at h2;have:ahO m 9223372036854775808=true:=ai5 aib aa;simp only[gf,this,bg]|negSucc m=>have:ahO m 9223372036854775808=true:=ai5 aib aa;simp[this,gf,bg]
theorem RO.bf(h:RO ac C l B (bo F d v) D)(b:aT F x=v:=by exact cw)(e:v.bk=true:=by first|rfl|assumption):RO ac C (⟨d,.bf x,none,[],[]⟩::l) B F D:=RO.op (λaf a=>by simp only[aH,a.gv b e]) h
theorem RO.arith{op:BinOp}{a b:Int}(h:RO ac C l B (bo F d v) D)(f:aT F x=.int m a:=by exact cw)(g:aT F O=.int m b:=by exact cw)(hv:fO op m a b=some v:=by exact cw):RO ac C (⟨d,.arith op m x O,none,[],[]⟩::l) B F D:=RO.op (λaf e=>by simp only[aH,e.gv f rfl,e.gv g rfl,yG,ait,ai1,bg,hv,ahQ]) h
theorem RO.add{a b:Int}(h:RO ac C l B (bo F d (.int 3 (a+b))) D)(e:aT F x=.int 3 a:=by exact cw)(f:aT F O=.int 3 b:=by exact cw)(h1: -9223372036854775808<=a+b:=by omega)(h2:a+b<9223372036854775808:=by omega):RO ac C (⟨d,.arith .add 3 x O,none,[],[]⟩::l) B F D:=RO.arith h e f (by simp[h1,h2,fO,mY])
theorem RO.zQ(h:RO ac C l B (bo F d (.int 3 (.ofNat (a+b)))) D)(e:aT F x=.int 3 (.ofNat a):=by exact cw)(f:aT F O=.int 3 (.ofNat b):=by exact cw)(h2:a+b<9223372036854775808:=by omega):RO ac C (⟨d,.arith .add 3 x O,none,[],[]⟩::l) B F D:=RO.add (a:=.ofNat a) (b:=.ofNat b) h e f (by grind) (by grind)
theorem RO.sub{a b:Int}(h:RO ac C l B (bo F d (.int 3 (a - b))) D)(e:aT F x=.int 3 a:=by exact cw)(f:aT F O=.int 3 b:=by exact cw)(h1: -9223372036854775808<=a - b:=by omega)(h2:a - b<9223372036854775808:=by omega):RO ac C (⟨d,.arith .sub 3 x O,none,[],[]⟩::l) B F D:=RO.arith h e f (by simp[h1,h2,fO,mY])
theorem RO.eql{a b:Int}(h:RO ac C l B (bo F d (.bool (decide (a=b)))) D)(e:aT F x=.int m a:=by exact cw)(f:aT F O=.int m b:=by exact cw):RO ac C (⟨d,.arith .eql m x O,none,[],[]⟩::l) B F D:=RO.arith h e f (by grind[fO,dW])
theorem RO.neq{a b:Int}(h:RO ac C l B (bo F d (.bool (decide (a≠b)))) D)(e:aT F x=.int m a:=by exact cw)(f:aT F O=.int m b:=by exact cw):RO ac C (⟨d,.arith .neq m x O,none,[],[]⟩::l) B F D:=RO.arith h e f (by simp only[fO,dW];grind)
theorem RO.lss{a b:Int}(h:RO ac C l B (bo F d (.bool (decide (a<b)))) D)(e:aT F x=.int m a:=by exact cw)(f:aT F O=.int m b:=by exact cw):RO ac C (⟨d,.arith .lss m x O,none,[],[]⟩::l) B F D:=RO.arith h e f (by simp[fO,li])
theorem RO.leq{a b:Int}(h:RO ac C l B (bo F d (.bool (decide (a<=b)))) D)(e:aT F x=.int m a:=by exact cw)(f:aT F O=.int m b:=by exact cw):RO ac C (⟨d,.arith .leq m x O,none,[],[]⟩::l) B F D:=RO.arith h e f (by simp only[fO,li];congr 2;grind)
theorem RO.gtr{a b:Int}(h:RO ac C l B (bo F d (.bool (decide (b<a)))) D)(e:aT F x=.int m a:=by exact cw)(f:aT F O=.int m b:=by exact cw):RO ac C (⟨d,.arith .gtr m x O,none,[],[]⟩::l) B F D:=RO.arith h e f (by simp[fO,li])
theorem RO.geq{a b:Int}(h:RO ac C l B (bo F d (.bool (decide (b<=a)))) D)(e:aT F x=.int m a:=by exact cw)(f:aT F O=.int m b:=by exact cw):RO ac C (⟨d,.arith .geq m x O,none,[],[]⟩::l) B F D:=RO.arith h e f (by simp only[fO,li];congr 2;grind)
theorem RO.zK(h:RO ac C l B (bo F d (.bool (decide (a<b)))) D)(e:aT F x=.int m (.ofNat a):=by exact cw)(f:aT F O=.int m (.ofNat b):=by exact cw):RO ac C (⟨d,.arith .lss m x O,none,[],[]⟩::l) B F D:=RO.lss (a:=.ofNat a) (b:=.ofNat b) (by simpa using h) e f
theorem RO.zP(h:RO ac C l B (bo F d (.bool (decide (a<=b)))) D)(e:aT F x=.int m (.ofNat a):=by exact cw)(f:aT F O=.int m (.ofNat b):=by exact cw):RO ac C (⟨d,.arith .leq m x O,none,[],[]⟩::l) B F D:=RO.leq (a:=.ofNat a) (b:=.ofNat b) (by simpa using h) e f
theorem RO.zN(h:RO ac C l B (bo F d (.bool (decide (b<a)))) D)(e:aT F x=.int m (.ofNat a):=by exact cw)(f:aT F O=.int m (.ofNat b):=by exact cw):RO ac C (⟨d,.arith .gtr m x O,none,[],[]⟩::l) B F D:=RO.gtr (a:=.ofNat a) (b:=.ofNat b) (by simpa using h) e f
theorem RO.zO(h:RO ac C l B (bo F d (.bool (decide (b<=a)))) D)(e:aT F x=.int m (.ofNat a):=by exact cw)(f:aT F O=.int m (.ofNat b):=by exact cw):RO ac C (⟨d,.arith .geq m x O,none,[],[]⟩::l) B F D:=RO.geq (a:=.ofNat a) (b:=.ofNat b) (by simpa using h) e f
theorem RO.zM(h:RO ac C l B (bo F d (.bool (decide (a=b)))) D)(e:aT F x=.int m (.ofNat a):=by exact cw)(f:aT F O=.int m (.ofNat b):=by exact cw):RO ac C (⟨d,.arith .eql m x O,none,[],[]⟩::l) B F D:=RO.eql (a:=.ofNat a) (b:=.ofNat b) (by rw[show decide (ah0 a=ah0 b)=decide (a=b)from decide_eq_decide.2 ⟨λh=>Int.ofNat.inj h,λh=>congrArg _ h⟩];exact h) e f
theorem RO.zL(h:RO ac C l B (bo F d (.bool (decide (a≠b)))) D)(f:aT F x=.int m (.ofNat a):=by exact cw)(g:aT F O=.int m (.ofNat b):=by exact cw):RO ac C (⟨d,.arith .neq m x O,none,[],[]⟩::l) B F D:=RO.neq (a:=.ofNat a) (b:=.ofNat b) (by rw[show decide (ah0 a≠ah0 b)=decide (a≠b)from decide_eq_decide.2 ⟨λh e=>h (congrArg _ e),λh e=>h (Int.ofNat.inj e)⟩];exact h) f g
theorem RO.un{op:UnOp}(h:RO ac C l B (bo F d W) D)(b:aT F x=v:=by exact cw)(e:v.bk=true:=by first|rfl|assumption)(f:AL op v=some W:=by exact cw):RO ac C (⟨d,.unary op x,none,[],[]⟩::l) B F D:=RO.op (λaf a=>by simp only[aH,a.gv b e,f,ahQ]) h
theorem RO.eq{e:dB}{t:Bool}(h:RO ac C l B (bo F d (.bool (t !=Q))) D)(b:aT F x=v:=by exact cw)(f:v.bk=true:=by first|rfl|assumption)(g:aT F O=W:=by exact cw)(hb:W.bk=true:=by first|rfl|assumption)(ht:db 64 e v W=some t:=by first|assumption|rfl):RO ac C (⟨d,.eq Q e x O,none,[],[]⟩::l) B F D:=RO.op (λaf a=>by simp only[aH,a.gv b f,a.gv g hb,ht,ahQ]) h
theorem RO.aW{i:ah}(h:RO ac C l B (bo F d v) D)(hx:aT F x=.aD i o:=by exact cw)(hc:aY D i o=some v:=by assumption):RO ac C (⟨d,.aW x,none,[],[]⟩::l) B F D:=RO.op (λaf a=>iq (a.gv hx rfl) hc) h
theorem RO.ee(h:RO ac C l B (bo F d (.agg E)) D)(hx:aT F x=.aD p b:=by exact cw)(hc:dE D p b m=some E:=by assumption):RO ac C (⟨d,.ee m x,none,[],[]⟩::l) B F D:=RO.op (λaf a=>by simp only[aH,a.gv hx rfl,gW,hc,bg,ahQ]) h
theorem RO.store{i:ah}(b:gF M i o v.cells=some D)(h:RO ac C l B (bo F d .ai8) D)(e:aT F x=.aD i o:=by exact cw)(f:aT F O=v:=by exact cw)(g:v.bk=true:=by first|rfl|assumption)(j:v.cells.length=m:=by rfl):RO ac C (⟨d,.store m x O,none,[],[]⟩::l) B F M:=RO.op (λaf a=>by simp only[aH,a.gv e rfl,a.gv f g,j,bg,b]) h
theorem RO.dH(h:RO ac C l B (bo F d (.aD p (o+m*a))) D)(f:aT F x=.slice p o b k Q:=by exact cw)(g:aT F O=.int n (.ofNat m):=by exact cw)(hj:m<b:=by omega):RO ac C (⟨d,.dH a x O,none,[],[]⟩::l) B F D:=RO.op (λaf e=>by have:ahO m b=true:=ai5 aib hj;simp only[aH,e.gv f rfl,e.gv g rfl,this,bg]) h
theorem RO.iX(h:RO ac C l B (bo F d (.aD p (b+m))) D)(e:aT F x=.aD p b:=by exact cw):RO ac C (⟨d,.iX m x,none,[],[]⟩::l) B F D:=RO.op (λaf a=>by simp only[aH,a.gv e rfl]) h
theorem RO.part(h:RO ac C l B (bo F d v) D)(e:aT F x=.agg E:=by exact cw)(f:pX Q E m b=some v:=by exact cw):RO ac C (⟨d,.part Q m b x,none,[],[]⟩::l) B F D:=RO.op (λaf a=>by simp only[aH,a.gv e rfl,f,ahQ]) h
theorem RO.extract(h:RO ac C l B (bo F d v) D)(b:aT F x=.tuple E:=by exact cw)(e:nI E m=some v:=by exact cw):RO ac C (⟨d,.extract x m,none,[],[]⟩::l) B F D:=RO.op (λaf a=>by simp only[aH,a.gv b rfl,e,ahQ]) h
def lenOf:AV->Option Nat
 |.slice _ _ n _ _=>some n
 |.bj=>some 0
 |_=>none
theorem RO.iY(h:RO ac C l B (bo F d (.int 3 (.ofNat m))) D)(b:aT F x=v:=by exact cw)(e:lenOf v=some m:=by first|rfl|assumption):RO ac C (⟨d,.iY x,none,[],[]⟩::l) B F D:=RO.op (λaf a=>by
 have hd:v.bk=true:=by cases v<;>first|rfl|cases e
 simp only[aH,a.gv b hd];grind[lenOf,Option.some.injEq,reduceCtorEq]) h
theorem RO.box(h:RO ac C l B (bo F d (.aD D.next 0)) (D.new (.cells (cr v.cells) v.cells.length m true [] 0)))(b:aT F x=v:=by exact cw)(e:v.bk=true:=by first|rfl|assumption)(f:cU v.cells=true:=by rfl):RO ac C (⟨d,.box m x,none,[],[]⟩::l) B F D:=RO.op (λaf a=>by simp only[aH,a.gv b e,f,bg]) h
theorem RO.alloc(h:RO ac C l B (bo F d (.aD D.next 0)) (D.new (.cells (cr E) E.length m true [] 0))):RO ac C (⟨d,.alloc m E,none,[],[]⟩::l) B F D:=RO.op (λaf a=>by rfl) h
def nW(L:Kn)(l:List AV):List (Nat×Nat×aJ)->Option (List AV)
 |[]=>some l
 |(off,size,x)::a=>
  let b:=(aT L x).cells
  if(aT L x).bk&&decide (b.length=size)then(match rj l off b with|some e=>nW L e a|none=>none)else none
theorem EX(a:Le F A):∀{i:List (Nat×Nat×aJ)}{f g:List AV},nW F f i=some g->lE A f i=some g
 |[],f,g,h=>by trivial
 |(off,size,x)::k,f,g,h=>by
  simp only[nW]at h;split at h
  .rename_i j;have b:=j;simp only[ahl]at b;have e:=a.gv (x:=x) rfl b.1;simp only[lE];rw[e,aF j];split at h;·rename_i h2;rw[h2];exact EX a h
   grind
  grind
theorem RO.build(h:RO ac C l B (bo F d (.agg vs)) D)(hl:nW F E X=some vs:=by exact cw):RO ac C (⟨d,.build E X,none,[],[]⟩::l) B F D:=RO.op (λaf a=>by grind[aH,EX]) h
theorem RO.buildSlice(h:RO ac C l B (bo F d (.slice D.next 0 m m true)) (D.new (.cells (cr vs) vs.length b true [] 0)))(hl:nW F (dZ E m) X=some vs:=by exact cw)(e:cU vs=true:=by rfl):RO ac C (⟨d,.buildSlice b m E X,none,[],[]⟩::l) B F D:=RO.op (λaf a=>by simp only[aH,EX a hl,e,bg]) h
theorem RO.k6{a:List aJ}(h:RO ac C l B (bo F d (.func m E V)) D)(g:a.map (aT F)=E:=by rfl)(b:E.all AV.bk=true:=by rfl)(hb:f.map (aT F)=V:=by rfl)(i:V.all AV.bk=true:=by rfl):RO ac C (⟨d,.k6 m a f,none,[],[]⟩::l) B F D:=RO.op (λaf j=>by
 have e:∀{a:List aJ}{E:List AV},a.map (aT F)=E->E.all AV.bk=true->a.map (gv af)=E:=λ{a E}g b=>by subst g;exact aip λx k=>j.gv rfl (aiv.1 b _ (ahG k))
 simp[e,g,b,hb,i,aH]) h
theorem RO.ky(h:RO ac C l B (bo F d (.map D.next)) (D.new (.map [] 0))):RO ac C (⟨d,.ky,none,[],[]⟩::l) B F D:=RO.op (λaf a=>by rfl) h
theorem RO.mI(h:RO ac C l B (bo F d (.iface m v)) D)(b:aT F x=v:=by exact cw)(e:v.bk=true:=by first|rfl|assumption):RO ac C (⟨d,.mI m x,none,[],[]⟩::l) B F D:=RO.op (λaf a=>by simp only[aH,a.gv b e]) h
theorem RO.mJ(h:RO ac C l B (bo F d (.slice D.next 0 b m true)) (D.new (.cells (cr (dZ E m)) (m*k) o true [] 0)))(f:aT F x=.int 3 (.ofNat b):=by exact cw)(g:aT F O=.int 3 (.ofNat m):=by exact cw)(i:b<=m:=by omega)(hb:m*a<=70368744177664:=by omega)(j:m<=70368744177664:=by omega):RO ac C (⟨d,.mJ o a k E x O,none,[],[]⟩::l) B F D:=RO.op (λaf e=>by
 have h1:(aih b m&&dU (m*a)&&dU m)=true:=by simp only[dU,ahl];exact⟨⟨ahV i,ahV hb⟩,ahV j⟩
 simp only[aH,e.gv f rfl,e.gv g rfl,h1,bg]) h
theorem RO.append{r:AV×ai}(g:gh D m W=some (a,E))(i:jk b bytes m D v a E=some r)(h:RO ac C l B (bo F d r.1) r.2)(j:aT F x=v:=by exact cw)(hs:v.bk=true:=by first|rfl|assumption)(k:aT F O=W:=by exact cw)(f:W.bk=true:=by first|rfl|assumption):RO ac C (⟨d,.append b bytes m V false x O,none,[],[]⟩::l) B F D:=RO.op (λaf e=>by simp only[aH,abH,bF,e.gv j hs,e.gv k f,g,i]) h
theorem RO.nilCheck(h:RO ac C l B (bo F d v) D)(e:aT F x=v:=by exact cw)(b:(match v with|.aD .. |.func .. |.yield _|.iface .. |.map _|.slice .. =>true|_=>false)=true:=by first|rfl|assumption):RO ac C (⟨d,.nilCheck x,none,[],[]⟩::l) B F D:=RO.op (λaf a=>by
 have hd:v.bk=true:=by cases v<;>first|rfl|cases b
 simp only[aH,a.gv e hd];cases v<;>first|rfl|cases b) h
theorem RO.oY{r:AV}(h:RO ac C l B (bo F d r) D)(g:f.map (aT F)=v::E:=by rfl)(hd:(v::E).all AV.bk=true:=by first|rfl|assumption)(hr:vZ Q v E=some r:=by exact cw):RO ac C (⟨d,.oY Q f,none,[],[]⟩::l) B F D:=RO.op (λaf a=>by
 have e:f.map (gv af)=v::E:=by rw[<-g];refine aip λx b=>a.gv rfl ?_;rw[<-g]at hd;exact aiv.1 hd _ (ahG b)
 simp[e,hr,aH,ahQ]) h
def kj(L:Kn)(x:Option aJ)(d y:Nat):Option Nat:=
 match x with
 |some x=>lF (aT L x) y
 |none=>some d
theorem xA(e:Le F A){x:Option aJ}(h:kj F x m b=some a):jA A x m b=some a:=by cases x with|none=>exact h|some x=>simp only[kj]at h;simp only[jA];rw[e.gv (x:=x) rfl (by cases hg:aT F x<;>rw[hg]at h<;>first|rfl|cases h)];exact h
theorem RO.gV{lo hi f:Option aJ}(g:aT F x=.slice p o bytes k Q)(j:kj F f k k=some m)(hb:kj F hi bytes m=some b)(q:kj F lo 0 b=some a)(he:(Q||f.isSome||lo.isNone||qf D p n)=true)(h:RO ac C l B (bo F d (.slice p (if Q&&decide (m=a)then o else o+a*u) (b - a) (m - a) (Q||f.isSome))) D):RO ac C (⟨d,.gV n u x lo hi f,none,[],[]⟩::l) B F D:=RO.op (λaf e=>by simp only[aH,e.gv g rfl,xA e j,xA e hb,xA e q,aeX,aiS,he,bg]) h
theorem RO.zT{lo hi f:Option aJ}(g:aT F x=.bj)(i:kj F f 0 0=some m)(hb:kj F hi 0 m=some b)(j:kj F lo 0 b=some a)(h:RO ac C l B (bo F d .bj) D):RO ac C (⟨d,.gV o k x lo hi f,none,[],[]⟩::l) B F D:=RO.op (λaf e=>by simp only[aH,e.gv g rfl,xA e i,xA e hb,xA e j,aeX,aiS]) h
theorem RO.kx{a:Int}(h:RO ac C l B (bo F d (.int m (gf m a))) D)(f:aT F x=.int b a:=by exact cw):RO ac C (⟨d,.kx m x,none,[],[]⟩::l) B F D:=RO.op (λaf e=>by simp only[aH,e.gv f rfl]) h
theorem RO.copy(g:aT F x=.slice p o m k Q)(j:aT F O=v)(f:v.bk=true)(n:gh D a v=some (b,E))(q:min b m≠0)(r:gF D p o (E.take (min b m*a))=some M)(h:RO ac C l B (bo F d (.int 3 (.ofNat (min b m)))) M):RO ac C (⟨d,.copy a x O,none,[],[]⟩::l) B F D:=RO.op (λaf e=>by simp only[aH,e.gv g rfl,e.gv j f,n,an q,r]) h
theorem RO.J7(f:aT F x=xv)(g:aT F O=v)(e:v.bk=true)(i:gh D m v=some (b,E))(j:∃n,lenOf xv=some n/\min b n=0)(h:RO ac C l B (bo F d (.int 3 (.ofNat 0))) D):RO ac C (⟨d,.copy m x O,none,[],[]⟩::l) B F D:=RO.op (λaf a=>by
 have⟨n,h1,h2⟩:=j;have hd:xv.bk=true:=by cases xv<;>first|rfl|cases h1
 simp only[aH,a.gv f hd,a.gv g e,i];cases xv<;>simp only[lenOf,aa9,reduceCtorEq]at h1;all_goals grind) h
theorem RO.typeAssert(b:aT F x=.iface u v)(hu:ahr u m=true)(h:RO ac C l B (bo F d v) D):RO ac C (⟨d,.typeAssert m W false x,none,[],[]⟩::l) B F D:=RO.op (λaf a=>by simp only[aH,a.gv b rfl,hu,bg,abH,bF]) h
theorem RO.kw{op:BinOp}(h:RO ac C l B (bo F d v) D)(b:aT F x=W:=by exact cw)(e:W.bk=true:=by first|rfl|assumption)(f:aT F O=z:=by exact cw)(hb:z.bk=true:=by first|rfl|assumption)(g:vY op W z=some v:=by exact cw):RO ac C (⟨d,.kw op x O,none,[],[]⟩::l) B F D:=RO.op (λaf a=>by simp only[aH,a.gv b e,a.gv f hb,g,ahQ]) h
theorem RO.mK{t:List Nat}(h:RO ac C l B (bo F d (.int 3 (.ofNat t.length))) D)(b:aT F x=.str t:=by exact cw):RO ac C (⟨d,.mK x,none,[],[]⟩::l) B F D:=RO.op (λaf a=>by simp only[aH,a.gv b rfl]) h
theorem RO.xy(h:RO ac C l B (bo F d .ai8) D)(hg:aT F (.t p)=.bool Q:=by exact cw)(hb:Q≠Y:=by decide):RO ac C (⟨d,q,some (p,Y),I,e⟩::l) B F D:=λaf a=>by have⟨n,b⟩:=h _ (a.set d .ai8);refine⟨n+1,?_⟩;have f:af.get .ai8 p=.bool Q:=a.get hg rfl;simp[hb,f,b,Xo,Go.al.aA,d8,ka,abH,bF,AV.bk,bg]
theorem RO.rR(h:RO ac C (⟨d,q,none,I,e⟩::l) B F D)(hg:aT F (.t p)=.bool Q:=by exact cw):RO ac C (⟨d,q,some (p,Q),I,e⟩::l) B F D:=λaf a=>by have⟨n,b⟩:=h af a;refine⟨n,?_⟩;have f:af.get .ai8 p=.bool Q:=a.get hg rfl;cases n with|zero=>trivial|succ n=>simp_all[Xo,Go.al.aA,d8,beq_self_eq_true,bg]
end
section
theorem uI{c:az AV}{n:Nat}:∀{l:List AV}{o:Nat},o+l.length<=n->(∀i(h:i<l.length),c.br .ai8 (o+i)=l[i])->fZ c n o l.length=some l
 |[],o,_,_=>by rfl
 |z::l,o,h,hg=>by
  simp only[ahK,fZ];have h0:c.br .ai8 o=z:=hg 0 aC;have b:o<n:=by simp at h;omega
  have d:=uI (c:=c) (n:=n) (l:=l) (o:=o+1) (by simp at h;omega) (λi hi=>by have:=hg (i+1) (by simpa using hi);rw[show o+(i+1)=o+1+i by omega]at this;simpa using this);grind
def Sl(H:ai)(size:Nat)(vs:List AV)(n:Nat)(sv:AV):Prop:=
 (sv=.bj/\n=0/\vs=[])\/∃i o cap ex c m e rw aK fz,sv=.slice i o n cap ex/\H.get i=.cells c m e rw aK fz/\o+n*size<=m/\vs.length=n*size/\(∀j(h:j<vs.length),c.br .ai8 (o+j)=vs[j])/\i.ap<H.next.ap/\n<=cap
variable{H H':ai}{e:Nat}
theorem Sl.length(h:Sl H m E b v):E.length=b*m:=by rcases h with⟨_,rfl,rfl⟩|⟨_,_,_,_,_,_,_,_,_,_,_,_,_,h,_⟩;all_goals grind
theorem Sl.bk(h:Sl H m E b v):v.bk=true:=by rcases h with⟨rfl,_⟩|⟨_,_,_,_,_,_,_,_,_,_,rfl,_⟩<;>rfl
theorem Sl.cY(h:Sl H m E b v):v.cY=true:=by rcases h with⟨rfl,_⟩|⟨_,_,_,_,_,_,_,_,_,_,rfl,_⟩<;>rfl
theorem Sl.cells(h:Sl H m E b v):v.cells=[v]:=by rcases h with⟨rfl,_⟩|⟨_,_,_,_,_,_,_,_,_,_,rfl,_⟩<;>rfl
theorem Sl.len(h:Sl H b E m v):lenOf v=some m:=by rcases h with⟨rfl,rfl,_⟩|⟨_,_,_,_,_,_,_,_,_,_,rfl,_⟩<;>rfl
theorem Sl.gh(h:Sl H m E b v):gh H m v=some (b,E):=by rcases h with⟨rfl,rfl,rfl⟩|⟨i,o,cap,ex,c,j,e,d,aK,fz,rfl,hg,f,hl,g,_⟩;all_goals grind[uI,Go.al.gh,dE]
theorem Sl.frame(h:Sl H m E b v)(l:H.next.ap<=H'.next.ap)(p:∀j:ah,j.ap<H.next.ap->H'.get j=H.get j):Sl H' m E b v:=by
 rcases h with h|⟨i,o,cap,ex,c,q,e,f,aK,fz,h1,hg,g,hl,k,hi,d⟩;·exact .inl h
 exact .inr ⟨i,o,cap,ex,c,q,e,f,aK,fz,h1,by grind,g,hl,k,aa,d⟩
theorem Sl.at(h:Sl H b E m W)(p:0<m):∃i o cap ex,W=.slice i o m cap ex/\m<=cap/\i.ap<H.next.ap/\(∀j(hj:j<E.length),aY H i (o+j)=some E[j])/\∀j k,(j+k)<=E.length->dE H i (o+j) k=some ((E.drop j).take k):=by
 rcases h with⟨_,rfl,_⟩|⟨i,o,cap,ex,c,r,e,g,aK,fz,h1,hg,q,hl,f,hi,d⟩;·omega
 refine⟨i,o,cap,ex,h1,d,hi,λj hj=>?_,λj k l=>?_⟩;·have hb:ahO (o+j) r=true:=ai5 aib aa;simp[hg,hb,f,hj,aY,bg]
 grind[uI,List.length_take,List.length_drop,Nat.add_assoc,Nat.min_eq_left,dE]
def cO(H:ai)(fp:List ah)(e m:Nat)(E:List AV)(n:Nat)(a:Bool)(W:AV):Prop:=
 (fp=[]/\E=[]/\n=0/\W=.bj)\/
 ∃i c aK cap ex,fp=i::aK/\W=.slice i 0 n cap ex/\H.get i=.cells c (cap*m) e true aK 0/\n<=cap/\E.length=n*m/\(∀j(h:j<E.length),c.br .ai8 j=E[j])/\(∀p∈fp,p.ap<H.next.ap)/\(a=true->ex=true\/n=cap)
theorem cO.sl(h:cO H I e m E b Q v):Sl H m E b v:=by
 rcases h with⟨_,rfl,rfl,rfl⟩|⟨i,c,aK,cap,ex,rfl,rfl,hg,d,hl,g,f,_⟩;·exact .inl ⟨rfl,rfl,rfl⟩
 refine .inr ⟨i,0,cap,ex,c,_,e,true,aK,0,rfl,hg,?_,hl,λj hj=>by grind,f i (acj ..),d⟩;simp[d,ahw,ahS]
theorem cO.frame(h:cO H I e m E b Q v)(k:H.next.ap<=H'.next.ap)(q:∀j∈I,H'.get j=H.get j):cO H' I e m E b Q v:=by
 rcases h with h|⟨i,c,aK,cap,ex,rfl,rfl,hg,f,hl,l,o,d⟩;·exact .inl h
 exact .inr ⟨i,c,aK,cap,ex,rfl,rfl,by grind,f,hl,l,λp g=>ahC (o p g) k,d⟩
structure aR(H H':ai):Prop where
 nx:H.next.ap<=H'.next.ap
 cI:∀j:ah,j.ap<H.next.ap->H'.get j=H.get j
theorem aR.refl(H:ai):aR H H:=⟨aeE _,λ_ _=>rfl⟩
theorem aR.trans(h:aR D M)(k:aR M S):aR D S:=⟨aiw h.nx k.nx,λj hj=>(k.cI j (ahC hj h.nx)).trans (h.cI j hj)⟩
theorem ai.lm(H:ai)(o:bR):(H.new o).next.ap=H.next.ap+1:=ah.eP _
theorem aR.new(H:ai)(o:bR):aR H (H.new o):=⟨by rw[ai.lm];omega,λj hj=>by rw[ai.cL,an (bW aa)]⟩
theorem aR.sl(h:aR H H')(k:Sl H m E b v):Sl H' m E b v:=k.frame h.nx h.cI
theorem aR.aY(h:aR H H')(hi:p.ap<H.next.ap)(o:Nat):aY H' p o=Go.al.aY H p o:=mX (h.cI p hi) o
theorem cO.below(h:cO H I e m E b Q v):∀j∈I,j.ap<H.next.ap:=by rcases h with⟨rfl,_⟩|⟨_,_,_,_,_,_,_,_,_,_,_,c,_⟩;all_goals grind
theorem xB:∀{l:List AV},cU l=true↔∀v∈l,v.cY=true|[]=>by trivial|b::l=>by simp[cU,xB (l:=l)]
theorem tn(h:m<=70368744177664):dU m=true:=ahV h
theorem xC(h:m<E.length):(cr E).br .ai8 m=E[m]:=by simp[h,nN,ahi]
theorem cO.new(c:vs.length=n*size)(ex a:Bool):cO (H.new (.cells (cr vs) (n*size) e true [] 0)) [H.next] e size vs n a (.slice H.next 0 n n ex):=.inr ⟨H.next,cr vs,[],n,ex,rfl,rfl,by rw[ai.cL,aF rfl],aeE _,c,λj hj=>xC hj,λp b=>by rw[abt]at b;subst b;rw[ai.lm];omega,λ_=>.inr rfl⟩
theorem cO.append(h:cO H I e b V n true v)(t:E.length=m*b)(h1:cU E=true)(hb:(n+m)*bytes<=70368744177664)(hs:n+m<=70368744177664):∃w H' x,jk e bytes b H v m E=some (w,H')/\cO H' x e b (V++E) (n+m) true w/\H.next.ap<=H'.next.ap/\(∀j∈x,j∈I\/(H.next.ap<=j.ap/\j.ap<H'.next.ap))/\∀j:ah,j∉I->j.ap<H.next.ap->H'.get j=H.get j:=by
 rcases h with⟨rfl,rfl,rfl,rfl⟩|⟨i,c,aK,cap,ex,rfl,rfl,hg,l,hl,A,z,d⟩
 .by_cases u:m=0;·subst u;have o:E=[]:=ahz aa;subst o;refine⟨.bj,H,[],by simp[jk,cU],.inl ⟨rfl,rfl,rfl,rfl⟩,aeE _,λj hj=>(by cases hj),λ_ _ _=>rfl⟩
  have q:ahr m 0=false:=by cases h:ahr m 0 with|false=>rfl|true=>exact absurd (ahn h) u
  refine⟨.slice H.next 0 m m false,H.new (.cells (cr E) (m*b) e true [] 0),[H.next],?_,?_,?_,?_,?_⟩;·rw[ahw]at hb hs;simp only[jk,h1,ahN,abH,bF,q,tn hb,tn hs,ai1,bg]
  .rw[ahw];exact cO.new t false true
  .exact(aR.new H _).nx
  .intro j hj;rw[abt]at hj;subst hj;right;rw[ai.lm];omega
  intro j _ hj;exact(aR.new H _).cI j hj
 by_cases f:n+m<=cap
 .have g:aih (n+m) cap=true:=ahV f;by_cases u:m=0
  .subst u;have o:E=[]:=ahz aa;subst o;refine⟨.slice i 0 (n+0) cap ex,H,i::aK,?_,?_,aeE _,λj hj=>.inl hj,λ_ _ _=>rfl⟩;·simp only[jk,h1,ahN,abH,bF,g,bg,ait]
   exact .inr ⟨i,c,aK,cap,ex,rfl,rfl,hg,l,by simpa using hl,by simpa using A,z,d⟩
  have q:ahr m 0=false:=by cases h:ahr m 0 with|false=>rfl|true=>exact absurd (ahn h) u
  have D:n*b+E.length<=cap*b:=by rw[t,<-aiT];exact ahS _ f
  have B:gF H i (0+n*b) E=some ((H.eI aK).set i (.cells (ez c (0+n*b) E) (cap*b) e true [] 0)):=by
   have hd:(decide (0<=0+n*b)&&decide (0+n*b+E.length<=cap*b)&&cU E)=true:=by simp only[ahl,decide_eq_true_eq,h1,and_true];omega
   simp only[gF,hg,hd,bg]
  refine⟨.slice i 0 (n+m) cap ex,(H.eI aK).set i (.cells (ez c (0+n*b) E) (cap*b) e true [] 0),[i],by simp only[jk,h1,ahN,abH,bF,g,bg,q,B],?_,?_,?_,?_⟩
  .refine .inr ⟨i,ez c (0+n*b) E,[],cap,ex,rfl,rfl,by rw[ai.aG,aF rfl],f,by rw[ae8,hl,t,aiT],λj hj=>?_,λp k=>?_,λF=>?_⟩
   .rw[lg];rw[ae8]at hj;by_cases r:j<V.length;·rw[an aa,A j r,List.getElem_append_left r]
    rw[aF aa,List.getElem_append_right aa];have:j - (0+n*b)<E.length:=aa;simp only[ahi,this,getElem?_pos,aii];congr 1;omega
   .rw[abt]at k;subst k;rw[ai.eK,ai.iL];exact z _ (acj ..)
   rcases d F with h|h;·exact .inl h
   right;omega
  .rw[ai.eK,ai.iL];exact aeE _
  .intro j hj;rw[abt]at hj;subst hj;exact .inl (acj ..)
  intro j hj _;rw[ai.aG,an λe:j=i=>hj (by rw[e];exact acj ..),ai.uk,an λe=>hj (ab8 _ e)]
 have g:aih (n+m) cap=false:=by cases h:aih (n+m) cap with|false=>rfl|true=>exact absurd (aht h) f
 have hrd:fZ c (cap*b) 0 (n*b)=some V:=by have:=uI (c:=c) (n:=cap*b) (l:=V) (o:=0) (by rw[ahw,hl];exact ahS _ l) (λj hj=>by rw[ahw];exact A j hj);rw[hl]at this;exact this
 have y:(!(dU ((n+m)*bytes)&&dU (n+m)))=false:=by rw[tn hb,tn hs];rfl
 cases ex with
 |true=>
  refine⟨.slice H.next 0 (n+m) (n+m) false,H.new (.cells (cr (V++E)) ((n+m)*b) e true [] 0),[H.next],by simp only[jk,h1,ahN,abH,bF,g,y,hg,hrd,bg],?_,(aR.new H _).nx,?_,λj _ hj=>(aR.new H _).cI j hj⟩;·exact cO.new (by rw[ae8,hl,t,aiT]) false true
  intro j hj;rw[abt]at hj;subst hj;right;rw[ai.lm];omega
 |false=>
  have C:n=cap:=by rcases d rfl with h|h;cases h;exact h
  subst C;have s:(true&&ahr n n&&ahr (0+n*b) (n*b)&&ahr e e&&aih 0 (n*b))=true:=by simp[ait]
  have G:i.ap<H.next.ap:=z i (acj ..);refine⟨.slice H.next 0 (n+m) (n+m) false,(H.set i (.cells c (n*b) e false aK 0)).new (.cells (cr (V++E)) ((n+m)*b) e true (i::aK) 0),H.next::i::aK,by simp only[jk,h1,ahN,abH,bF,g,y,hg,hrd,s,bg],?_,?_,?_,?_⟩
  .refine .inr ⟨H.next,cr (V++E),i::aK,n+m,false,rfl,rfl,by rw[ai.cL,ai.eK,aF rfl],aeE _,by rw[ae8,hl,t,aiT],λj hj=>xC hj,λp k=>?_,λ_=>.inr rfl⟩;rw[ai.lm,ai.eK];rcases ac2.1 k with e|e;·subst e;omega
   have:=z p e;omega
  .rw[ai.lm,ai.eK];omega
  .intro j hj;rcases ac2.1 hj with e|e;·subst e;right;rw[ai.lm,ai.eK];omega
   exact .inl e
  intro j hj r;rw[ai.cL,ai.eK,an (bW aa),ai.aG,an λe:j=i=>hj (by rw[e];exact acj ..)]
theorem RO.SX{ac:Nat->aX}(f:cO H I e b V a true W)(hs:Sl H b E m v)(h1:cU E=true)(h:∀c H' d,cO H' d e b (V++E) (a+m) true c->H.next.ap<=H'.next.ap->(∀j∈d,j∈I\/(H.next.ap<=j.ap/\j.ap<H'.next.ap))->(∀j:ah,j∉I->j.ap<H.next.ap->H'.get j=H.get j)->RO ac C N B (bo F J c) H')(g:aT F x=W:=by exact cw)(i:aT F O=v:=by exact cw)(hb:(a+m)*bytes<=70368744177664:=by omega)(k:a+m<=70368744177664:=by omega):RO ac C (⟨J,.append e bytes b r false x O,none,[],[]⟩::N) B F H:=by have⟨c,H',d,h2,h3,l,o,p⟩:=f.append (bytes:=bytes) hs.length h1 hb k;exact RO.append hs.gh h2 (h c H' d h3 l o p) g f.sl.bk i hs.bk
end
section
variable{ac:Nat->aX}{l:List bD}
abbrev aI(z:Int):AV:=.int 3 z
abbrev aN(n:Nat):AV:=.int 3 (.ofNat n)
theorem md(l:List Int):cU (l.map aI)=true:=xB.2 λv a=>by obtain⟨z,_,rfl⟩:=ahm.1 a;rfl
abbrev dh(H:ai)(l:List Int)(a:AV):Prop:=Sl H 1 (l.map aI) l.length a
theorem RO.SY{a:List Int}(hs:dh D a v)(h:∀i o z,a[m]?=some z->aY D i o=some (aI z)->i.ap<D.next.ap->RO ac C l B (bo F J (.aD i o)) D)(f:aT F x=v:=by exact cw)(g:aT F O=.int b (.ofNat m):=by exact cw)(hj:m<a.length:=by omega):RO ac C (⟨J,.dH 1 x O,none,[],[]⟩::l) B F D:=by obtain⟨i,o,k,e,rfl,h1,h2,h3,n⟩:=hs.at aa;refine RO.dH (h i (o+m*1) a[m] (getElem?_pos a m hj) ?_ h2) f g hj;grind
theorem RO.BN(j:∀f a,q≠.call f a)(g:∀a,q≠.j6 a)(he:∀af,Le F af->∃i,aH q af (dF af M I).1=some (v,i)/\dj i (dF af M I).2=D)(k:∀af,Le (bo F J v) af->dQ af D e=true)(h:RO ac C l B (bo F J v) D):RO ac C (⟨J,q,none,I,e⟩::l) B F M:=λaf b=>by have⟨n,m⟩:=h _ (b.set J v);have⟨i,h1,h2⟩:=he af b;have h3:=k _ (b.set J v);refine⟨n+1,?_⟩;cases q<;>first|exact absurd rfl (j _ _)|exact absurd rfl (g _)|(simp only[Xo,Go.al.aA,d8,bg,h1,h2,h3];exact m)
theorem RO.EY(h:YF ac v E D λw b=>(∀af,Le (bo F J w) af->dQ af b e=true)/\RO ac C N B (bo F J w) b)(p:aT F x=v:=by exact cw)(i:v.bk=true:=by first|rfl|assumption)(q:f.map (aT F)=E:=by rfl)(j:E.all AV.bk=true:=by first|rfl|assumption):RO ac C (⟨J,.call x f,none,[],e⟩::N) B F D:=λaf a=>by
 have⟨n,r⟩:=h;have k:f.map (gv af)=E:=by subst q;exact aip λy t=>a.gv rfl (aiv.1 j _ (ahG t))
 obtain⟨m,g⟩:=(xx ac n).call (K:=λm w b=>dQ (aQ af J w) b e=true/\Xo ac m N ⟨aQ af J w,C.M,C.R⟩ b (iP ac C.K B .none)) (λm u w D g h=>⟨h.1,h.2.mono g λ_ _ h=>h⟩) ((mono ac n).call (aeE _) (λw b o=>by have⟨m,g⟩:=o.2 _ (a.set J w);exact⟨m,o.1 _ (a.set J w),g⟩) r);refine⟨max n m+1,?_⟩;simp only[Xo,Go.al.aA,d8,dF,dj,bg];rw[a.gv p i,k];refine(show Xf ac n v E D _ from g).mono (Nat.le_max_left ..) λw b h=>?_;rw[aF h.1];exact(show Xo ac m N _ b _ from h.2).mono (Nat.le_max_right ..) λ_ _ h=>h
end
section
variable{A H H':ai}{fp fp':List ah}
structure lM(fp fp':List ah)(H H':ai):Prop where
 nx:H.next.ap<=H'.next.ap
 hd:∀j∈fp',j∈fp\/H.next.ap<=j.ap
 cI:∀j:ah,j∉fp->j.ap<H.next.ap->H'.get j=H.get j
def qD(A:ai)(fp:List ah):Prop:=∀j∈fp,A.next.ap<=j.ap
theorem lM.bN(h:lM fp fp' H H')(hg:aR A H)(g:qD A fp):aR A H':=⟨aiw hg.nx h.nx,λj hj=>by rw[h.cI j (λm=>by have:=g j m;omega) (ahC hj hg.nx)];exact hg.cI j hj⟩
theorem lM.EZ(h:lM fp fp' H H')(hg:aR A H)(g:qD A fp):qD A fp':=λj hj=>by
 rcases h.hd j hj with m|m;·exact g j m
 have:=hg.nx;omega
theorem lM.refl(fp:List ah)(H:ai):lM fp fp H H:=⟨aeE _,λ_ hj=>.inl hj,λ_ _ _=>rfl⟩
theorem cO.tp(h:cO H fp m a E k Y (.slice p 0 k b Q)){us:List AV}(F:o+ws.length<=b*a)(h1:cU ws=true)(hl:us.length=E.length)(hu:∀j,j<E.length->us[j]?=if o<=j/\j<o+ws.length then ws[j - o]? else E[j]?):∃H',gF H p o ws=some H'/\lM fp [p] H H'/\cO H' [p] m a us k Y (.slice p 0 k b Q):=by
 rcases h with⟨_,_,_,h⟩|⟨G,I,aK,w,D,rfl,h2,hg,u,v,x,y,r⟩;·cases h
 injection h2 with h2 _ _ h3 z;subst h2;subst h3;subst z;have hd:(decide (0<=o)&&decide (o+ws.length<=b*a)&&cU ws)=true:=by simp only[ahl,decide_eq_true_eq,h1,and_true];omega
 refine⟨(H.eI aK).set p (.cells (ez I o ws) (b*a) m true [] 0),by simp only[gF,hg,hd,bg],⟨Nat.le_of_eq (by rw[ai.eK,ai.iL]),λj hj=>?_,λj hj J=>?_⟩,?_⟩;·rw[abt]at hj;subst hj;exact .inl (acj ..)
 .rw[ai.aG,an λm:j=p=>hj (by rw[m];exact acj ..),ai.uk,an λm=>hj (ab8 _ m)]
 refine .inr ⟨p,ez I o ws,[],b,Q,rfl,rfl,by rw[ai.aG,aF rfl],u,hl.trans v,λj hj=>?_,λK t=>?_,r⟩
 .have g:j<E.length:=aa;have:=hu j g;rw[getElem?_pos us j hj]at this;rw[lg];split;·rename_i q;rw[aF q,getElem?_pos ws _ aa]at this;injection this with this;simp only[ahi];rw[getElem?_pos ws _ aa];simp[this]
  rename_i q;rw[an q,getElem?_pos E _ g]at this;injection this with this;rw[x j g,this]
 rw[abt]at t;subst t;rw[ai.eK,ai.iL];exact y _ (acj ..)
theorem cO.mem(h:cO H fp o a E m Q (.slice p 0 m b Y)):p∈fp/\m<=b/\p.ap<H.next.ap:=by rcases h with⟨_,_,_,h⟩|⟨t,I,aK,j,q,rfl,h2,hg,k,r,u,v,g⟩;all_goals grind
theorem cO.jp(h:cO H fp o a E m Y v)(t:m≠0):∃p b Q,v=.slice p 0 m b Q:=by rcases h with⟨_,_,h,_⟩|⟨u,I,aK,j,q,rfl,h2,hg,k,r,w,x,g⟩;all_goals grind
variable{ac:Nat->aX}
end
section
variable{ac:Nat->aX}
theorem RO.bP [Decidable y](h1:y->RO ac C N B ((p,.bool true)::F) D)(h2:¬y->RO ac C N B ((p,.bool false)::F) D):RO ac C N B ((p,.bool (decide y))::F) D:=by by_cases a:y;all_goals grind
theorem RO.pD(h1:Q=true->RO ac C N B ((p,.bool true)::F) D)(h2:Q=false->RO ac C N B ((p,.bool false)::F) D):RO ac C N B ((p,.bool Q)::F) D:=by cases Q with|true=>grind|false=>grind
theorem qE(h:m<=b):lF (.int a (.ofNat m)) b=some m:=by simp[h,lF,ahV,bg]
theorem RO.J8(hs:Sl D o E k v)(h:∀a,Sl D o (E.take (b*o)) b a->RO ac C N B (bo F J a) D)(g:aT F x=v:=by exact cw)(p:aT F O=.int u (.ofNat b):=by exact cw)(hb:b<=k:=by omega):RO ac C (⟨J,.gV bytes o x none (some O) none,none,[],[]⟩::N) B F D:=by
 rcases hs with⟨rfl,rfl,rfl⟩|⟨i,K,cap,ex,t,m,y,f,aK,fz,rfl,hg,I,hl,z,hi,r⟩;·have:b=0:=aa;subst this;refine RO.zT (m:=0) (b:=0) (a:=0) g rfl ?_ rfl (h _ (.inl ⟨rfl,rfl,aC⟩));simp only[kj,p];rfl
 refine RO.gV (m:=cap) (b:=b) (a:=0) g rfl ?_ rfl aC ?_;·simp only[kj,p];exact qE aa
 have G:(if ex&&decide (cap=0)then K else K+0*o)=K:=by split<;>omega
 rw[G,aiW,aiW];have bz:b*o<=k*o:=ahS _ hb;refine h _ (.inr ⟨i,K,cap,_,t,m,y,f,aK,fz,rfl,hg,aa,?_,λj hj=>?_,hi,aa⟩);·rw[ahU];omega
 rw[ahU]at hj;rw[z j aa];simp
theorem RO.SZ(h:∀M a I,cO M I m size [] 0 true a->aR D M->qD D I->RO ac C N B (bo F J a) M):RO ac C (⟨J,.buildSlice m 0 E [],none,[],[]⟩::N) B F D:=by refine RO.buildSlice (vs:=[]) ?_ rfl rfl;have b:cO (D.new (.cells (cr []) (0*size) m true [] 0)) [D.next] m size [] 0 true (.slice D.next 0 0 0 true):=cO.new (vs:=[]) aC true true;rw[Nat.zero_mul]at b;exact h _ _ _ b (aR.new D _) (λj hj=>by grind)
theorem RO.S7(g:cO M w o b V a true W)(hs:Sl M b E m v)(h1:cU E=true)(h:∀f D I,cO D I o b (V++E) (a+m) true f->lM w I M D->RO ac C N B (bo F J f) D)(i:aT F x=W:=by exact cw)(p:aT F O=v:=by exact cw)(hb:(a+m)*k<=70368744177664:=by omega)(t:a+m<=70368744177664:=by omega):RO ac C (⟨J,.append o k b r false x O,none,[],[]⟩::N) B F M:=RO.SX g hs h1 (λf D I h2 h3 u y=>h f D I h2 ⟨h3,λj hj=>(u j hj).imp id λh=>h.1,y⟩) i p hb t
theorem RO.E0{lo hi f:Option aJ}(g:aT F x=.slice p o size k Q)(j:kj F f k k=some m)(hb:kj F hi size m=some b)(r:kj F lo 0 b=some a)(he:(Q||f.isSome||lo.isNone||qf D p u)=true)(t:AV.slice p (if Q&&decide (m=a)then o else o+a*bytes) (b - a) (m - a) (Q||f.isSome)=v)(h:RO ac C N B (bo F J v) D):RO ac C (⟨J,.gV u bytes x lo hi f,none,[],[]⟩::N) B F D:=by grind[RO.gV]
theorem RO.zR{b:aJ}(h:RO ac C N B (bo F J v) D)(e:aT F x=.bool true:=by exact cw)(f:aT F O=v:=by exact cw)(g:v.bk=true:=by first|rfl|assumption):RO ac C (⟨J,.pick x O b,none,[],[]⟩::N) B F D:=RO.op (λaf a=>by simp only[aH,a.gv e rfl,a.gv f g,bg]) h
theorem RO.zS{a:aJ}(h:RO ac C N B (bo F J v) D)(e:aT F x=.bool false:=by exact cw)(hb:aT F O=v:=by exact cw)(f:v.bk=true:=by first|rfl|assumption):RO ac C (⟨J,.pick x a O,none,[],[]⟩::N) B F D:=RO.op (λaf b=>by simp only[aH,b.gv e rfl,b.gv hb f,abH,bF]) h
theorem RO.BL(h:RO ac C N B (bo F J .ai8) D)(hg:aT F (.t p)=.tuple []:=by exact cw):RO ac C (⟨J,q,some (p,Q),I,e⟩::N) B F D:=λaf a=>by have⟨n,b⟩:=h _ (a.set J .ai8);refine⟨n+1,?_⟩;have f:af.get .ai8 p=.tuple []:=a.get hg rfl;simp[f,b,Xo,Go.al.aA,d8,ka,abH,bF,AV.bk,bg]
theorem ad(h:v.bk=true)(h2:E.all AV.bk=true):(v::E).all AV.bk=true:=by grind
theorem RO.cl{fv:AV}(h:YF ac fv av D λv e=>RO ac C N B (bo F J v) e)(g:aT F x=fv:=by exact cw)(a:fv.bk=true:=by first|rfl|assumption)(ha:f.map (aT F)=av:=by rfl)(b:av.all AV.bk=true:=by repeat first|rfl|assumption|(refine ad ?_ ?_)):RO ac C (⟨J,.call x f,none,[],[]⟩::N) B F D:=RO.call h g a ha b
theorem me(h:1<=k)(a:k<1000000):fO .sub 3 (.ofNat k) (.ofNat 1)=some (.int 3 (.ofNat (k - 1))):=by grind[fO,mY]
theorem aZ{l:List t}(h:m<l.length)(d:t):l.getD m d=l[m]:=by grind
theorem YF.lF(h:YF ac (.func m E vs) V D d):YF ac (.func m [] vs) (E++V) D d:=by have⟨n,h⟩:=h;refine⟨n,?_⟩;cases n with|zero=>trivial|succ n=>trivial
end
section
structure Th where
 P:ai->List ah->Prop
 fr:∀{H H':ai}{fp:List ah},P H fp->H.next.ap<=H'.next.ap->(∀j∈fp,H'.get j=H.get j)->P H' fp
 lt:∀{H:ai}{fp:List ah},P H fp->∀j∈fp,j.ap<H.next.ap
def Fs(A H:ai):List (List ah)->List Th->Prop
 |[],[]=>True
 |fp::fs,t::ts=>t.P H fp/\qD A fp/\(∀j∈fp,∀f∈fs,j∉f)/\Fs A H fs ts
 |_,_=>False
def ak(A H:ai)(ts:List Th):Prop:=aR A H/\∃fs,Fs A H fs ts
variable{ts us:List Th}{t t':Th}
theorem Fs.lt:∀{fs:List (List ah)}{ts:List Th},Fs M D fs ts->∀f∈fs,∀j∈f,j.ap<D.next.ap
 |[],[],_,f,a=>by grind
 |I::fs,t::ts,⟨h1,_,_,c⟩,f,a=>by
  rcases ac2.1 a with rfl|a;·exact t.lt h1
  exact Fs.lt c f a
 |[],_::_,h,_,_=>h.elim
 |_::_,[],h,_,_=>h.elim
theorem Fs.ge:∀{fs:List (List ah)}{ts:List Th},Fs D M fs ts->∀f∈fs,qD D f
 |[],[],_,f,a=>by grind
 |I::fs,t::ts,⟨_,h2,_,c⟩,f,a=>by
  rcases ac2.1 a with rfl|a;·omega
  exact Fs.ge c f a
 |[],_::_,h,_,_=>h.elim
 |_::_,[],h,_,_=>h.elim
theorem Fs.qC(a:D.next.ap<=M.next.ap):∀{fs:List (List ah)}{ts:List Th},Fs S D fs ts->(∀f∈fs,∀j∈f,M.get j=D.get j)->Fs S M fs ts|[],[],_,_=>trivial|_::_,t::_,⟨h1,h2,h3,c⟩,hg=>⟨t.fr h1 a (hg _ (acj ..)),h2,h3,Fs.qC a c λf d=>hg f (ab8 _ d)⟩|[],_::_,h,_=>h.elim|_::_,[],h,_=>h.elim
theorem Fs.iQ(hg:aR D M)(hu:lM I w M S):∀{fs:List (List ah)}{ts:List Th}{i:Nat},Fs D M fs ts->ts[i]?=some t->fs[i]?=some I->t'.P S w->∃c,Fs D S c (ts.set i t')/\∀f∈c,f=w\/f∈fs
 |[],[],i,_,h,_,_=>by grind
 |[],_::_,_,h,_,_,_=>h.elim
 |_::_,[],_,h,_,_,_=>h.elim
 |l::fs,t0::ts,0,⟨h1,h2,h3,d⟩,k,a,m=>by
  simp only[List.getElem?_cons_zero,aa9]at k a;subst a;refine⟨w::fs,⟨m,hu.EZ hg h2,λj hj f a e=>?_,Fs.qC hu.nx d λf a j hj=>hu.cI j (λe=>h3 j e f a hj) (Fs.lt d f a j hj)⟩,λf a=>(ac2.1 a).imp id λh=>ab8 _ h⟩;rcases hu.hd j hj with h|h;·grind
  have:=Fs.lt d f a j e;omega
 |l::fs,t0::ts,i+1,⟨h1,h2,h3,d⟩,k,a,m=>by
  simp only[ail]at k a;have o:=List.mem_of_getElem? a;have n:=t0.lt h1;have g:∀j∈l,j∉I:=λj hj=>h3 j hj I o;have⟨c,p,q⟩:=Fs.iQ hg hu d k a m;refine⟨l::c,⟨t0.fr h1 hu.nx λj hj=>hu.cI j (g j hj) (n j hj),h2,λj hj f a e=>?_,p⟩,λf a=>?_⟩
  .rcases q f a with rfl|h;·rcases hu.hd j e with h|h;all_goals grind
   grind
  grind
theorem Fs.at:∀{fs:List (List ah)}{ts:List Th}{i:Nat},Fs M D fs ts->ts[i]?=some t->∃I,fs[i]?=some I/\t.P D I|[],[],i,_,h=>by grind|[],_::_,_,h,_=>h.elim|_::_,[],_,h,_=>h.elim|c::fs,t0::ts,0,⟨h1,_,_,_⟩,a=>by grind|c::fs,t0::ts,i+1,⟨_,_,_,d⟩,a=>by have⟨I,e,h⟩:=Fs.at d a;grind
theorem ak.iQ(U:ak D M ts)(i:Nat)(hi:ts[i]?=some t):∃I,t.P M I/\qD D I/\∀{H':ai}{fp':List ah}{t':Th},lM I fp' M H'->t'.P H' fp'->ak D H' (ts.set i t'):=by have⟨hg,fs,a⟩:=U;have⟨I,e,h⟩:=a.at hi;refine⟨I,h,a.ge I (List.mem_of_getElem? e),λhu c=>⟨hu.bN hg (a.ge I (List.mem_of_getElem? e)),?_⟩⟩;have⟨d,h1,_⟩:=a.iQ hg hu hi e c;grind
theorem ak.gr(U:ak D M ts):aR D M:=U.1
theorem ak.nil(hg:aR D M):ak D M []:=⟨hg,[],trivial⟩
theorem ak.push(U:ak S D ts)(hg:aR D M)(h:t.P M fp)(d:qD D fp):ak S M (t::ts):=by have⟨g,fs,a⟩:=U;refine⟨g.trans hg,fp::fs,h,λj hj=>aiw g.nx (d j hj),λj hj f c e=>?_,Fs.qC hg.nx a λf c j hj=>hg.cI j (a.lt f c j hj)⟩;have:=a.lt f c j e;have:=d j hj;omega
theorem ak.bN(U:ak D M ts)(hg:aR M S):ak D S ts:=by have⟨c,fs,a⟩:=U;exact⟨c.trans hg,fs,Fs.qC hg.nx a λf d j hj=>hg.cI j (a.lt f d j hj)⟩
theorem ak.tail(U:ak D M (t::ts)):ak D M ts:=by have⟨a,fs,c⟩:=U;cases fs with|nil=>trivial|cons f fs=>exact⟨a,fs,c.2.2.2⟩
theorem ak.cH(U:ak M S ts):∀{us:List Th},ak S D us->ak M D (us++ts)
 |us,p=>by
  have⟨hg,fs,q⟩:=p;have h0:=U.bN hg;induction us generalizing fs with
  |nil=>grind
  |cons t us l=>
   cases fs with
   |nil=>trivial
   |cons f fs=>
    have⟨h1,h2,h3,g⟩:=q;have⟨m,n,a⟩:=U;have key:∀{us:List Th}{fs:List (List ah)},Fs S D fs us->∃c,Fs M D c (us++ts)/\∀k∈c,k∈fs\/k∈n:=by
     intro us;induction us with
     |nil=>intro fs _;exact⟨n,Fs.qC hg.nx a λf r j hj=>hg.cI j (a.lt f r j hj),λk d=>.inr d⟩
     |cons t us l=>
      intro fs h;cases fs with
      |nil=>exact h.elim
      |cons f fs=>
       have⟨h1,h2,h3,g⟩:=h;have⟨c,i,o⟩:=l g;refine⟨f::c,⟨h1,λj hj=>aiw m.nx (h2 j hj),λj hj k d e=>?_,i⟩,λk d=>?_⟩
       .rcases o k d with h|h;·exact h3 j hj k h e
        have:=a.lt k h j e;have:=h2 j hj;omega
       rcases ac2.1 d with rfl|h;·exact .inl (acj ..)
       exact(o k h).imp (ab8 _) id
    have⟨c,i,_⟩:=key (us:=t::us) (fs:=f::fs) ⟨h1,h2,h3,g⟩;exact⟨m.trans hg,c,i⟩
theorem ak.bI(U:ak S D ts)(a:M.next=D.next)(hg:∀j,M.get j=D.get j):ak S M ts:=U.bN ⟨by grind,λj _=>hg j⟩
theorem ak.bM(H:ai):ak H H []:=ak.nil (aR.refl H)
theorem ak.drop(n:Nat)(U:ak D M ts):ak D M (ts.drop n):=by induction n generalizing ts with|zero=>grind|succ n a=>cases ts with|nil=>grind|cons t ts=>simpa using a U.tail
theorem Fs.J9:∀{fs:List (List ah)}{ts:List Th}{i:Nat},Fs D M fs ts->ts[i]?=some t->∃I a,t.P M I/\qD D I/\Fs D M a (ts.eraseIdx i)/\(∀g∈a,g∈fs)/\I∈fs/\∀j∈I,∀g∈a,j∉g|[],[],i,_,h=>by grind|[],_::_,_,h,_=>h.elim|_::_,[],_,h,_=>h.elim|c::fs,t0::ts,0,⟨h1,h2,h3,d⟩,f=>by grind[List.getElem?_cons_zero,Option.some.injEq,List.mem_cons_of_mem,List.mem_cons_self]|c::fs,t0::ts,i+1,⟨h1,h2,h3,d⟩,f=>by have⟨I,a,k,l,m,n,o,p⟩:=Fs.J9 d f;refine⟨I,c::a,k,l,⟨h1,h2,λj hj g hg=>h3 j hj g (n g hg),m⟩,λg hg=>?_,ab8 _ o,λj hj g hg e=>?_⟩;all_goals grind
theorem ak.ep(U:ak D M ts)(i:Nat)(hi:ts[i]?=some t):ak D M (t::ts.eraseIdx i):=by have⟨a,fs,c⟩:=U;have⟨I,d,e,f,g,_,_,h⟩:=c.J9 hi;exact⟨a,I::d,e,f,h,g⟩
theorem ak.get(U:ak M D ts)(i:Nat)(hi:ts[i]?=some t):∃I,t.P D I:=by have⟨I,h,_⟩:=U.iQ i hi;grind
theorem ak.as(U:ak M D ts)(i:Nat)(hi:ts[i]?=some t)(h:∀I,t.P D I->t'.P D I):ak M D (ts.set i t'):=by have⟨I,h1,_,h2⟩:=U.iQ i hi;grind[lM.refl]
theorem ak.E1(U:ak D S ts)(hg:aR M D):ak M S ts:=by
 obtain⟨c,fs,a⟩:=U;refine⟨hg.trans c,fs,?_⟩;induction fs generalizing ts with
 |nil=>cases ts with|nil=>trivial|cons _ _=>trivial
 |cons f fs d=>cases ts with|nil=>trivial|cons t ts=>exact⟨a.1,λj hj=>aiw hg.nx (a.2.1 j hj),a.2.2.1,d a.2.2.2⟩
theorem Fs.bO(h:ts.Perm us):∀{fs:List (List ah)},Fs D M fs ts->∃c,Fs D M c us/\∀g,g∈c↔g∈fs:=by
 induction h with
 |nil=>grind
 |cons t _ i=>intro fs h;cases fs with|nil=>trivial|cons f fs=>have⟨h1,h2,h3,d⟩:=h;have⟨c,m,n⟩:=i d;exact⟨f::c,⟨h1,h2,λj hj g hg=>h3 j hj g ((n g).1 hg),m⟩,λg=>by grind⟩
 |swap a u l=>intro fs h;cases fs with|nil=>trivial|cons f fs=>cases fs with|nil=>exact h.2.2.2.elim|cons g fs=>have⟨h1,h2,h3,d,o,s,p⟩:=h;refine⟨g::f::fs,⟨d,o,λj hj k e=>?_,h1,h2,λj hj k e=>h3 j hj k (ab8 _ e),p⟩,λk=>by grind⟩;grind
 |trans _ _ q r=>grind
theorem ak.bO(U:ak D M ts)(h:ts.Perm us):ak D M us:=by have⟨a,fs,c⟩:=U;have⟨d,e,_⟩:=c.bO h;exact⟨a,d,e⟩
theorem ak.dK{xs:List Th}(U:ak D M (xs++ts++us)):ak D M (ts++(xs++us)):=by have:=U.bO (ahA.append_right us);grind
theorem ak.jd{xs:List Th}(U:ak D M (ts++(xs++us))):ak D M (xs++ts++us):=by rw[<-ae0]at U;exact U.bO (ahA.append_right us)
theorem ak.BO(U:ak D M (t::ts++us)):ak D M (ts++t::us):=U.bO ahy.symm
theorem ak.tq(U:ak D M (ts++t::us)):ak D M (t::ts++us):=U.bO ahy
theorem Fs.sub(h:us.Sublist ts):∀{fs:List (List ah)},Fs D M fs ts->∃c,Fs D M c us/\∀g∈c,g∈fs:=by
 induction h with
 |slnil=>grind
 |cons a _ d=>intro fs h;cases fs with|nil=>trivial|cons f fs=>have⟨c,k,i⟩:=d h.2.2.2;grind
 |cons_cons a _ d=>intro fs h;cases fs with|nil=>trivial|cons f fs=>have⟨h1,h2,h3,l⟩:=h;have⟨c,k,i⟩:=d l;exact⟨f::c,⟨h1,h2,λj hj g hg=>h3 j hj g (i g hg),k⟩,λg hg=>(ac2.1 hg).elim (λe=>e▸acj ..) λh=>ab8 _ (i g h)⟩
theorem ak.sub(U:ak D M ts)(h:us.Sublist ts):ak D M us:=by have⟨a,fs,c⟩:=U;have⟨d,e,_⟩:=c.sub h;exact⟨a,d,e⟩
theorem ak.skip{a:List Th}(U:ak D M (ts++a++us)):ak D M (ts++us):=by rw[ae0]at U;exact U.sub ((List.sublist_append_right a us).append_left ts)
end
variable{P:List Th}
section
def tS(e size:Nat)(vs:List AV)(n:Nat)(full:Bool)(sv:AV):Th where
 P H fp:=cO H fp e size vs n full sv
 fr h a hg:=h.frame a hg
 lt h:=h.below
def tB(e:Nat)(q:ah)(vs:List AV):Th where
 P H fp:=q∈fp/\(∀j∈fp,j=q)/\∃c,H.get q=.cells c vs.length e true [] 0/\(∀j(h:j<vs.length),c.br .ai8 j=vs[j])/\q.ap<H.next.ap
 fr h b hg:=by
  have⟨h1,h2,c,h3,f,a⟩:=h
  exact⟨h1,h2,c,by rw[hg _ h1];exact h3,f,ahC a b⟩
 lt h:=by
  have⟨_,h2,c,_,_,a⟩:=h
  intro j hj;rw[h2 j hj];exact a
variable{e:Nat}{q:ah}
variable{ac:Nat->aX}
theorem ao(h:W.cY=true)(h2:cU E=true):cU (W::E)=true:=by simp[h,h2,cU,ai1]
theorem cO.J'(h:cO D I e a E m Q (.slice q 0 m u Y))(g:E[b]?=some W):aY D q b=some W:=by
 have⟨f,r⟩:=ahY.1 g;have j:0<m:=by
  have:=h.sl.length;rcases Nat.eq_zero_or_pos m with e|e;·subst e;simp at this;rw[this]at f;simp at f
  exact e
 have⟨k,t,x,y,p,_,_,hat,_⟩:=h.sl.at j;grind
theorem tB.cell(h:(tB e q E).P D I)(b:E[m]?=some v):aY D q m=some v:=by have⟨_,_,C,h3,f,_⟩:=h;have⟨a,g⟩:=ahY.1 b;simp only[aY,h3,show ahO m E.length=true from ai5 aib a,bg,f m a,g]
theorem tB.kl{fp:List ah}(h:(tB e q E).P D fp)(a:o+m<=E.length):dE D q o m=some ((E.drop o).take m):=by have⟨_,_,C,h3,b,_⟩:=h;grind[uI,List.length_take,List.length_drop,Nat.min_eq_left,dE]
def sp(E:List AV)(m:Nat)(V:List AV):List AV:=E.take m++(V++E.drop (m+V.length))
theorem E2(h:m+V.length<=E.length):(sp E m V).length=E.length:=by simp[sp];omega
theorem Kb(h:m+E.length<=V.length)(j:Nat):(sp V m E)[j]?=if m<=j/\j<m+E.length then E[j - m]? else V[j]?:=by unfold sp;grind
theorem S8(h:m<E.length):sp E m [v]=E.set m v:=by
 apply List.ext_getElem?;intro j;rw[Kb (by simp;omega),List.getElem?_set];simp only[ahJ];by_cases hj:m=j;·subst hj;rw[aF aa,aF rfl,aF h];simp
 rw[an aa,an hj]
theorem tB.tp(h:(tB e q E).P D I)(b:o+ws.length<=E.length)(h1:cU ws=true):∃M a,gF D q o ws=some M/\lM I a D M/\(tB e q (sp E o ws)).P M a:=by
 have⟨g,h2,C,h3,i,p⟩:=h;have hd:(decide (0<=o)&&decide (o+ws.length<=E.length)&&cU ws)=true:=by simp only[ahl,decide_eq_true_eq,h1,and_true];omega
 refine⟨(D.eI []).set q (.cells (ez C o ws) E.length e true [] 0),[q],by simp only[gF,h3,hd,bg],⟨Nat.le_of_eq (by rw[ai.eK];rfl),λj hj=>?_,λj hj r=>?_⟩,abt.2 rfl,λj hj=>abt.1 hj,ez C o ws,?_,λj hj=>?_,by rw[ai.eK];exact p⟩;·rw[abt]at hj;subst hj;exact .inl g
 .rw[ai.aG,an λe:j=q=>hj (by rw[e];exact g)];rfl
 .rw[ai.aG,aF rfl,E2 b]
 rw[E2 b]at hj;rw[lg];have:=Kb b j;rw[getElem?_pos (sp E o ws) j (by rw[E2 b];exact hj)]at this;split;·rename_i f;rw[aF f,getElem?_pos ws _ aa]at this;injection this with this;simp only[ahi];rw[getElem?_pos ws _ aa];simp[this]
 rename_i f;rw[an f,getElem?_pos E _ hj]at this;injection this with this;rw[i j hj,this]
theorem RO.eo(U:ak M D P)(i:Nat)(h:RO ac C N B (bo F J v) D)(a:aT F x=.aD q m:=by exact cw)(hi:P[i]?=some (tB e q E):=by rfl)(hv:E[m]?=some v:=by rfl):RO ac C (⟨J,.aW x,none,[],[]⟩::N) B F D:=by have⟨I,b⟩:=U.get i hi;grind[RO.aW,tB.cell]
theorem RO.bT(U:ak M D P)(i:Nat)(h:RO ac C N B (bo F J (.agg ((E.drop o).take m))) D)(a:aT F x=.aD q o:=by exact cw)(hi:P[i]?=some (tB e q E):=by rfl)(hm:o+m<=E.length:=by first|decide|exact aht rfl|simp|omega):RO ac C (⟨J,.ee m x,none,[],[]⟩::N) B F D:=by have⟨I,b⟩:=U.get i hi;grind[RO.ee,tB.kl]
theorem RO.cJ(U:ak M D P)(i:Nat)(h:RO ac C N B (bo F J v) D)(f:aT F x=.aD q b:=by exact cw)(hi:P[i]?=some (tS e a E m Q (.slice q 0 m k Y)):=by rfl)(hv:E[b]?=some v:=by rfl):RO ac C (⟨J,.aW x,none,[],[]⟩::N) B F D:=by have⟨I,g⟩:=U.get i hi;exact RO.aW h f (cO.J' g hv)
theorem RO.dO(U:ak M S P)(i:Nat)(h:∀D,ak M D (P.set i (tB e q (E.set m v)))->RO ac C N B (bo F J .ai8) D)(a:aT F x=.aD q m:=by exact cw)(b:aT F O=v:=by exact cw)(hi:P[i]?=some (tB e q E):=by rfl)(f:m<E.length:=by first|decide|exact aht rfl|simp|omega)(g:v.cY=true:=by first|rfl|assumption)(j:v.cells=[v]:=by first|rfl|assumption)(hd:v.bk=true:=by first|rfl|assumption):RO ac C (⟨J,.store 1 x O,none,[],[]⟩::N) B F S:=by have⟨I,p,_,hu⟩:=U.iQ i hi;grind[tB.tp,List.length_singleton,cU,S8,RO.store]
theorem RO.eT(U:ak M S P)(i:Nat)(h:∀D,ak M D (P.set i (tB e q (sp vs m ws)))->RO ac C N B (bo F J .ai8) D)(a:aT F x=.aD q m:=by exact cw)(f:aT F O=.agg ws:=by exact cw)(hi:P[i]?=some (tB e q vs):=by rfl)(g:m+ws.length<=vs.length:=by first|decide|exact aht rfl|simp|omega)(j:ws.length=b:=by first|rfl|simp)(p:cU ws=true:=by repeat first|rfl|assumption|(refine ao ?_ ?_)):RO ac C (⟨J,.store b x O,none,[],[]⟩::N) B F S:=by have⟨I,r,_,hu⟩:=U.iQ i hi;have⟨D,t,h1,h2,h3⟩:=tB.tp (ws:=ws) r g p;exact RO.store (v:=.agg ws) h1 (h D (hu h2 h3)) a f rfl j
theorem Kc.set{f:t->AV}{a:List t}(h:cO M I e 1 (a.map f) a.length Q (.slice q 0 a.length m Y))(b:k<a.length)(z:t)(h1:(f z).cY=true):∃D,gF M q (0+k*1) [f z]=some D/\lM I [q] M D/\cO D [q] e 1 ((a.set k z).map f) (a.set k z).length Q (.slice q 0 (a.set k z).length m Y):=by
 have g:=(cO.mem h).2.1;have:=cO.tp h (o:=0+k*1) (ws:=[f z]) (us:=(a.set k z).map f) (by simp;omega) (by simp[cU,h1]) aC λj hj=>by
  simp only[ahs]at hj;simp only[ahB,List.getElem?_set,ahJ];by_cases e:k=j;·subst e;rw[aF rfl,aF aa];simp[b]
  rw[an e,an aa]
 grind
theorem RO.fD{f:t->AV}{zs:List t}(U:ak M S P)(i:Nat)(z:t)(a:zs.length=n)(h:∀D,ak M D (P.set i (tS e 1 ((zs.set k z).map f) n Q (.slice q 0 n m Y)))->RO ac C N B (bo F J .ai8) D)(b:aT F x=.aD q (0+k*1):=by exact cw)(g:aT F O=f z:=by exact cw)(hi:P[i]?=some (tS e 1 (zs.map f) n Q (.slice q 0 n m Y)):=by rfl)(ho:k<zs.length:=by first|omega|assumption)(j:(f z).cY=true:=by first|rfl|assumption)(r:(f z).cells=[f z]:=by first|rfl|assumption)(hd:(f z).bk=true:=by first|rfl|assumption):RO ac C (⟨J,.store 1 x O,none,[],[]⟩::N) B F S:=by subst a;have⟨I,p,_,hu⟩:=U.iQ i hi;have⟨D,h1,h2,h3⟩:=Kc.set (k:=k) p ho z j;refine RO.store (by grind) (h D ?_) b g hd (by grind);have:=hu (t':=tS e 1 ((zs.set k z).map f) (zs.set k z).length Q (.slice q 0 (zs.set k z).length m Y)) h2 h3;grind
theorem nX{f:t->AV}{a:List t}(z:t)(b:m<a.length):(a.map f)[0+m*1]?=some (f (a.getD m z)):=by grind
theorem tB.new(e:Nat)(vs:List AV)(H:ai):(tB e H.next vs).P (H.new (.cells (cr vs) vs.length e true [] 0)) [H.next]:=⟨abt.2 rfl,λj hj=>abt.1 hj,cr vs,by rw[ai.cL,aF rfl],λj hj=>xC hj,by rw[ai.lm];omega⟩
theorem rS(H:ai):qD H [H.next]:=λj hj=>by grind
theorem ak.E3(U:ak M D P)(e:Nat)(vs:List AV):ak M (D.new (.cells (cr vs) vs.length e true [] 0)) (tB e D.next vs::P):=U.push (aR.new D _) (tB.new e vs D) (rS D)
theorem RO.bZ(U:ak M S P)(h:∀D q,ak M D (tB e q v.cells::P)->RO ac C N B (bo F J (.aD q 0)) D)(a:aT F x=v:=by exact cw)(b:v.bk=true:=by first|rfl|assumption)(ho:cU v.cells=true:=by repeat first|rfl|assumption|(refine ao ?_ ?_)):RO ac C (⟨J,.box e x,none,[],[]⟩::N) B F S:=RO.box (h _ _ (U.E3 e v.cells)) a b ho
theorem RO.dL(U:ak M S P)(h:∀D q,ak M D (tB e q E::P)->RO ac C N B (bo F J (.aD q 0)) D):RO ac C (⟨J,.alloc e E,none,[],[]⟩::N) B F S:=RO.alloc (h _ _ (U.E3 e E))
theorem RO.dD(U:ak M S P){us:List AV}(h:∀D q,ak M D (tB e q us::P)->RO ac C N B ((p,.aD q 0)::F) D)(f:∀W,aT ((p,W)::F) x=xv:=by(intro W;conv=>lhs;whnf)<;>rfl)(u:xv.cells=us:=by first|rfl|assumption)(y:us.length=m:=by first|rfl|simp)(z:E.length=m:=by rfl)(h1:cU us=true:=by repeat first|rfl|assumption|(refine ao ?_ ?_))(hd:xv.bk=true:=by first|rfl|assumption):RO ac C (⟨some p,.alloc e E,none,[],[]⟩::⟨none,.store m (.t p) x,none,[],[]⟩::N) B F S:=by
 refine RO.dL U λG q a=>?_;have⟨I,g,_,hu⟩:=a.iQ 0 rfl;have⟨D,r,J,i,b⟩:=tB.tp (o:=0) (ws:=us) g aa h1;have j:sp E 0 us=us:=by simp[sp,List.drop_eq_nil_of_le (show E.length<=us.length by omega)]
 rw[j]at b;exact RO.store (i:=q) (o:=0) (v:=xv) (by grind) (h D q (hu i b)) (by show lk (bo F (some p) _) p=_;simp only[bo,lk,ah.ft.2 rfl]) (f _) hd (by grind)
theorem RO.jq(U:ak S D P)(h:∀M q,ak S M (tS e m (dZ E n) n true (.slice q 0 n n true)::P)->RO ac C N B (bo F J (.slice q 0 n n true)) M)(hx:aT F x=.int 3 (.ofNat n):=by exact cw)(hy:aT F O=.int 3 (.ofNat n):=by exact cw)(hz:(dZ E n).length=n*m)(hb:n*b<=70368744177664:=by omega)(a:n<=70368744177664:=by omega):RO ac C (⟨J,.mJ e b m E x O,none,[],[]⟩::N) B F D:=RO.mJ (h _ _ (U.push (aR.new D _) (cO.new hz true true) (rS D))) hx hy
theorem eE(z:AV):∀m,dZ [z] m=ab7 m z|0=>rfl|m+1=>by simp only[dZ,eE z m];rfl
theorem RO.ir(U:ak M S P)(size:Nat)(h:∀D W,ak M D (tS e size [] 0 true W::P)->RO ac C N B (bo F J W) D):RO ac C (⟨J,.buildSlice e 0 E [],none,[],[]⟩::N) B F S:=RO.SZ (size:=size) λD a b h1 h2 h3=>h D a (U.push h2 h1 h3)
theorem ak.mZ(U:ak M D P)(e size:Nat):ak M D (tS e size [] 0 true .bj::P):=U.push (fp:=[]) (aR.refl D) (.inl ⟨rfl,rfl,rfl,rfl⟩) λj hj=>by grind
theorem RO.kI(U:ak S M P)(i:Nat)(hs:Sl M m E a z)(h:∀D W,ak S D (P.set i (tS e m (V++E) (b+a) true W))->RO ac C N B (bo F J W) D)(hi:P[i]?=some (tS e m V b true xv):=by rfl)(h1:cU E=true:=by repeat first|rfl|assumption|(refine ao ?_ ?_))(g:aT F x=xv:=by exact cw)(j:aT F O=z:=by exact cw)(hb:(b+a)*o<=70368744177664:=by omega)(p:b+a<=70368744177664:=by omega):RO ac C (⟨J,.append e o m r false x O,none,[],[]⟩::N) B F M:=by have⟨I,t,_,hu⟩:=U.iQ i hi;exact RO.S7 t hs h1 (λf D G u y=>h D f (hu y u)) g j hb p
theorem RO.push(U:ak M H P)(i:Nat)(h:∀z D W,ak M D (P.set i (tS e size (vs++ws) (n+1) true W))->RO ac C N B (bo ((p,z)::F) J W) D)(hi:P[i]?=some (tS e size vs n true xv):=by rfl)(hl:nW F (dZ E 1) X=some ws:=by exact cw)(b:ws.length=size:=by first|rfl|simp)(h1:cU ws=true:=by repeat first|rfl|assumption|(refine ao ?_ ?_))(a:∀z,aT ((p,z)::F) x=xv:=by(intro z;conv=>lhs;whnf)<;>rfl)(hb:(n+1)*m<=70368744177664:=by omega)(hn:n+1<=70368744177664:=by omega):RO ac C (⟨some p,.buildSlice e 1 E X,none,[],[]⟩::⟨J,.append e m size V false x (.t p),none,[],[]⟩::N) B F H:=by
 refine RO.buildSlice ?_ hl h1;have hg:aR H (H.new (.cells (cr ws) ws.length e true [] 0)):=aR.new H _;have hs:Sl (H.new (.cells (cr ws) ws.length e true [] 0)) size ws 1 (.slice H.next 0 1 1 true):=by have:=(cO.new (H:=H) (e:=e) (size:=size) (n:=1) (vs:=ws) aa true true).sl;rw[show ws.length=1*size by omega];exact this
 exact RO.kI (U.bN hg) i hs (λD W h2=>h _ D W h2) hi h1 (a _) (by show lk (bo F (some p) _) p=_;simp only[bo,lk,ah.ft.2 rfl]) hb hn
theorem RO.iE(U:ak S D P)(size:Nat)(h:∀M q,ak S M (tS e size ws n true (.slice q 0 n n true)::P)->RO ac C N B (bo F J (.slice q 0 n n true)) M)(hl:nW F (dZ E n) X=some ws:=by exact cw)(a:ws.length=n*size:=by rfl)(h1:cU ws=true:=by repeat first|rfl|assumption|(refine ao ?_ ?_)):RO ac C (⟨J,.buildSlice e n E X,none,[],[]⟩::N) B F D:=by refine RO.buildSlice ?_ hl h1;rw[a];exact h _ _ (U.push (aR.new D _) (cO.new a true true) (rS D))
theorem ak.jp(U:ak D M P)(i:Nat)(hi:P[i]?=some (tS e a E m Y v))(f:m≠0):∃q b Q,v=.slice q 0 m b Q:=by have⟨I,g⟩:=U.get i hi;exact cO.jp g f
theorem Sl.all(h:Sl D b E m v):v.bk=true/\v.cY=true/\v.cells=[v]/\lenOf v=some m:=⟨h.bk,h.cY,h.cells,h.len⟩
theorem ak.sl(U:ak M D P)(i:Nat)(hi:P[i]?=some (tS e m E b Q v):=by rfl):Sl D m E b v:=by have⟨I,a⟩:=U.get i hi;exact cO.sl a
theorem up{P:Nat->Prop}(n:Nat)(h:∀m,m<=n->(∀j,m<j->j<=n->P j)->P m):∀m,m<=n->P m:=by
 have:∀J m,n - m=J->m<=n->P m:=by intro J;induction J using Nat.strongRecOn with|ind J a=>intro m hd b;exact h m b λj h1 h2=>a (n - j) aa j rfl h2
 grind
end
end Go.al
namespace Go.G
structure dY where
 op:Nat
 to:Int
 args:List Int
 n:Int
 m:Int
 i7:List Nat
 deriving Inhabited
structure Edge where
 block:Int
 args:List Int
 deriving Inhabited
structure fJ where
 op:Nat
 args:List Int
 i7:List Nat
 bu:List Nat
 go:List Edge
 deriving Inhabited
structure dI where
 i4:List Int
 aB:List dY
 aq:fJ
 deriving Inhabited
structure aM where
 i7:List Nat
 i4:Int
 aO:Int
 aj:List dI
 deriving Inhabited
end Go.G
namespace Go.G
structure Sm(g:aM):Prop where
 nb:g.aj.length<=5000
 bl:∀b∈g.aj,b.i4.length<=12/\b.aB.length<=40/\b.aq.args.length<=12/\b.aq.bu.length<=12/\b.aq.go.length<=12/\b.aq.i7.length<=60
 st:∀b∈g.aj,∀s∈b.aB,s.args.length<=12/\s.i7.length<=250
 ed:∀b∈g.aj,∀e∈b.aq.go,e.args.length<=12
end Go.G
namespace Go.al
abbrev aU(n:Nat):AV:=.int 4 (.ofNat n)
abbrev E4(H:ai)(l:List Nat)(sv:AV):Prop:=Sl H 1 (l.map aU) l.length sv
def cQ{f:Type}(size:Nat)(R:ai->f->List AV->Prop)(H:ai)(l:List f)(sv:AV):Prop:=
 ∃a,Sl H size a l.length sv/\∀k(h:k<l.length),R H l[k] ((a.drop (k*size)).take size)
def bV{f e:Type}(R:ai->f->e->Prop):Prop:=∀{H H':ai}{a:f}{b:e},aR H H'->R H a b->R H' a b
def pE(H:ai)(e:G.Edge)(cs:List AV):Prop:=∃v,cs=[aI e.block,v]/\dh H e.args v
def nY(H:ai)(s:G.dY)(cs:List AV):Prop:=∃v,cs=[aU s.op,aI s.to,v,aI s.n,aI s.m,.str s.i7]/\dh H s.args v
def nZ(H:ai)(j:G.fJ)(cs:List AV):Prop:=∃a b e,cs=[aU j.op,a,.str j.i7,b,e]/\dh H j.args a/\E4 H j.bu b/\cQ 2 pE H j.go e
def iR(H:ai)(b:G.dI)(cs:List AV):Prop:=∃a e g,cs=a::e::g/\dh H b.i4 a/\cQ 6 nY H b.aB e/\nZ H b.aq g
def dc(H:ai)(g:G.aM)(cs:List AV):Prop:=∃a,cs=[.str g.i7,aI g.i4,aI g.aO,a]/\cQ 7 iR H g.aj a
theorem bV.gK{f:Type}{size:Nat}{R:ai->f->List AV->Prop}(a:bV R):bV (cQ size R):=λg⟨b,h1,h2⟩=>⟨b,g.sl h1,λk h=>a g (h2 k h)⟩
theorem bV.E5:bV pE:=λg⟨v,h1,h2⟩=>⟨v,h1,g.sl h2⟩
theorem bV.step:bV nY:=λg⟨v,h1,h2⟩=>⟨v,h1,g.sl h2⟩
theorem bV.uJ:bV nZ:=λg⟨a,b,e,h1,h2,h3,h⟩=>⟨a,b,e,h1,g.sl h2,g.sl h3,bV.E5.gK g h⟩
theorem bV.block:bV iR:=λg⟨a,b,e,h1,h2,h3,h⟩=>⟨a,b,e,h1,g.sl h2,bV.step.gK g h3,bV.uJ g h⟩
theorem bV.eY:bV dc:=λg⟨a,h1,h2⟩=>⟨a,h1,bV.block.gK g h2⟩
variable{f:Type}{size n k:Nat}{R:ai->f->List AV->Prop}{H:ai}{la:List f}{sv:AV}
theorem cQ.len(h:cQ size R H la sv):lenOf sv=some la.length:=by obtain⟨a,h,_⟩:=h;exact h.len
theorem cQ.bk(h:cQ size R H la sv):sv.bk=true:=by obtain⟨a,h,_⟩:=h;exact h.bk
theorem cQ.cY(h:cQ size R H la sv):sv.cY=true:=by obtain⟨a,h,_⟩:=h;exact h.cY
theorem cQ.cells(h:cQ size R H la sv):sv.cells=[sv]:=by obtain⟨a,h,_⟩:=h;exact h.cells
theorem cQ.all(h:cQ size R H la sv):sv.bk=true/\sv.cY=true/\sv.cells=[sv]/\lenOf sv=some la.length:=⟨h.bk,h.cY,h.cells,h.len⟩
theorem cQ.at(h:cQ size R H la sv)(a:k<la.length):∃q o cap ex cs,sv=.slice q o la.length cap ex/\R H la[k] cs/\cs.length=size/\(∀j v,cs[j]?=some v->aY H q (o+k*size+j)=some v)/\dE H q (o+k*size) size=some cs:=by
 have⟨b,h1,h2⟩:=h;have hl:=h1.length;have g:k*size+size<=b.length:=by rw[hl,<-Nat.succ_mul];exact ahS _ a
 have⟨q,o,cap,ex,e,_,_,i,m⟩:=h1.at aa;grind
theorem pE.one{e:G.Edge}{cs:List AV}(h:pE H e cs):cU cs=true:=by obtain⟨v,rfl,h⟩:=h;exact ao rfl (ao h.cY rfl)
theorem nY.one{e:G.dY}{cs:List AV}(h:nY H e cs):cU cs=true:=by obtain⟨v,rfl,h⟩:=h;exact ao rfl (ao rfl (ao h.cY rfl))
theorem nZ.one{e:G.fJ}{cs:List AV}(h:nZ H e cs):cU cs=true:=by obtain⟨a,b,g,rfl,h1,h2,h3⟩:=h;exact ao rfl (ao h1.cY (ao rfl (ao h2.cY (ao h3.cY rfl))))
theorem iR.one{e:G.dI}{cs:List AV}(h:iR H e cs):cU cs=true:=by obtain⟨a,b,g,rfl,h1,h2,h3⟩:=h;exact ao h1.cY (ao h2.cY h3.one)
theorem dc.one{e:G.aM}{cs:List AV}(h:dc H e cs):cU cs=true:=by obtain⟨v,rfl,h⟩:=h;exact ao rfl (ao rfl (ao rfl (ao h.cY rfl)))
variable{ac:Nat->aX}{c:Cx}{s:List SI}{L:Kn}{d:Option ah}{l:List bD}
theorem RO.bL{B:ai}(hg:aR B H){x y:aJ}{j kd:Nat}(hs:cQ size R B la sv)(h:∀q o cs(hj:j<la.length),R B la[j] cs->cs.length=size->(∀t v,cs[t]?=some v->aY H q (o+t)=some v)->dE H q o size=some cs->RO ac c l s (bo L d (.aD q o)) H)(e:aT L x=sv:=by exact cw)(g:aT L y=.int kd (.ofNat j):=by exact cw)(hj:j<la.length:=by first|assumption|omega):RO ac c (⟨d,.dH size x y,none,[],[]⟩::l) s L H:=by
 obtain⟨q,o,cap,ex,cs,rfl,h1,h2,h3,m⟩:=hs.at hj;have p:∀t,aY H q t=aY B q t/\dE H q t size=dE B q t size:=λt=>by
  have⟨r,b,_⟩:=hs;have a:q.ap<B.next.ap:=by
   rcases b with⟨h,_⟩|⟨i,_,_,_,_,_,_,_,_,_,h,_,_,_,_,hi,_⟩;·cases h
   injection h with h;subst h;exact hi
  exact⟨hg.aY a t,by simp only[dE,hg.cI q a]⟩
 grind[RO.dH,trans]
theorem RO.fA{B:ai}(hg:aR B H){a:List Int}{x y:aJ}{j kd:Nat}(hs:dh B a sv)(h:∀q o(hj:j<a.length),aY H q o=some (aI a[j])->RO ac c l s (bo L d (.aD q o)) H)(b:aT L x=sv:=by exact cw)(e:aT L y=.int kd (.ofNat j):=by exact cw)(hj:j<a.length:=by first|assumption|omega):RO ac c (⟨d,.dH 1 x y,none,[],[]⟩::l) s L H:=RO.SY (hg.sl hs) (λq o z g i _=>h q o hj (by grind)) b e hj
theorem RO.ic{B:ai}(hg:aR B H){m:f->AV}{x y:aJ}{j kd:Nat}(hs:Sl B 1 (la.map m) la.length sv)(h:∀q o(hj:j<la.length),aY H q o=some (m la[j])->RO ac c l s (bo L d (.aD q o)) H)(b:aT L x=sv:=by exact cw)(e:aT L y=.int kd (.ofNat j):=by exact cw)(hj:j<la.length:=by first|assumption|omega):RO ac c (⟨d,.dH 1 x y,none,[],[]⟩::l) s L H:=RO.bL (R:=λ_ a cs=>cs=[m a]) hg ⟨_,hs,λk g=>by simp[g,aiE,ahp]⟩ (λq o cs hj i _ hat _=>h q o hj (by subst i;exact hat 0 _ rfl)) b e hj
theorem RO.S9{B:ai}{p:List AV}{n e:Nat}{x y:aJ}{b k:Nat}(hs:Sl B size p n sv)(h:∀a,Sl B size (p.take (b*size)) b a->RO ac c l s (bo L d a) H)(q:aT L x=sv:=by exact cw)(r:aT L y=.int k (.ofNat b):=by exact cw)(hb:b<=n:=by omega):RO ac c (⟨d,.gV e size x none (some y) none,none,[],[]⟩::l) s L H:=by
 rcases hs with⟨rfl,rfl,rfl⟩|⟨i,o,cap,ex,u,m,v,g,aK,fz,rfl,hg,A,hl,w,hi,t⟩;·have:b=0:=aa;subst this;refine RO.zT (m:=0) (b:=0) (a:=0) q rfl ?_ rfl (h _ (.inl ⟨rfl,rfl,aC⟩));simp only[kj,r];rfl
 refine RO.gV (m:=cap) (b:=b) (a:=0) q rfl ?_ rfl aC ?_;·simp only[kj,r];exact qE aa
 have z:(if ex&&decide (cap=0)then o else o+0*size)=o:=by split<;>omega
 rw[z,aiW,aiW];have bz:b*size<=n*size:=ahS _ hb;refine h _ (.inr ⟨i,o,cap,_,u,m,v,g,aK,fz,rfl,hg,aa,?_,λj hj=>?_,hi,aa⟩);·rw[ahU];omega
 rw[ahU]at hj;rw[w j aa];simp
theorem RO.Ta{r:List AV}{n e:Nat}{x y:aJ}{b k o cap:Nat}{q:ah}(hs:Sl H size r n (.slice q o n cap true))(h:∀a,Sl H size (r.drop (b*size)) (n - b) a->RO ac c l s (bo L d a) H)(v:aT L x=.slice q o n cap true:=by exact cw)(hy:aT L y=.int k (.ofNat b):=by exact cw)(hb:b<=n:=by omega):RO ac c (⟨d,.gV e size x (some y) none none,none,[],[]⟩::l) s L H:=by
 rcases hs with⟨h0,_⟩|⟨i,C,t,ex,w,m,z,g,aK,fz,h0,hg,D,hl,A,hi,u⟩;·grind
 injection h0 with h1 h2 _ h3 B;subst h1;subst h2;subst h3;subst B;refine RO.gV (m:=cap) (b:=n) (a:=b) v rfl (by simp[kj]) ?_ aC ?_;·simp only[kj,hy];exact qE hb
 have bz:b*size<=n*size:=ahS _ hb;refine h _ (.inr ⟨q,_,_,_,w,m,z,g,aK,fz,rfl,hg,?_,?_,λj hj=>?_,hi,aa⟩);·rw[Nat.sub_mul];split<;>omega
 .rw[aiM,hl,Nat.sub_mul]
 rw[aiM]at hj;split;·rename_i p;simp only[aiU,decide_eq_true_eq]at p;have:b=n:=aa;subst this;omega
 rw[aiD,A (b*size+j) aa];simp
theorem RO.Tc{B:ai}{e:Nat}{x y:aJ}{b k:Nat}(hs:cQ size R B la sv)(h:∀a,cQ size R B (la.take b) a->RO ac c l s (bo L d a) H)(i:aT L x=sv:=by exact cw)(j:aT L y=.int k (.ofNat b):=by exact cw)(hb:b<=la.length:=by omega):RO ac c (⟨d,.gV e size x none (some y) none,none,[],[]⟩::l) s L H:=by have⟨m,h1,h2⟩:=hs;refine RO.S9 h1 (λa h3=>h a ⟨_,by rw[ahU,aiQ hb];exact h3,λk g=>?_⟩) i j hb;rw[ahU,aiQ hb]at g;have:=h2 k aa;rw[List.getElem_take,List.drop_take,List.take_take,aiQ (by have:(k+1)*size<=b*size:=ahS _ g;rw[Nat.succ_mul]at this;omega)];exact this
def pk(M:Kn):List ah->Kn
 |[]=>[]
 |p::l=>(p,lk M p)::pk M l
theorem Ru.nm{H:ai}(h:∀S M,S=s->M=L->Ru ac c S M H):Ru ac c s L H:=h s L rfl rfl
theorem ja.pk(M:Kn):∀a,ja (pk M a) M|[]=>trivial|_::l=>⟨rfl,ja.pk M l⟩
theorem ja.n6{M K:Kn}(h2:ja K M):∀{l:Kn},ja l M->ja (l++K) M|[],_=>h2|_::_,h=>⟨h.1,ja.n6 h2 h.2⟩
theorem Ru.bH{M L bY:Kn}{a:List ah}{H:ai}(b:M=L)(h:Ru ac c s (bY++pk M a) H)(hl:ja bY L:=by repeat'(first|exact trivial|refine⟨rfl,?_⟩)):Ru ac c s M H:=h.rP (ja.n6 (ja.pk M a) (by grind))
theorem Ru.wk{M:Kn}{H:ai}(h:Ru ac c s L H)(hl:ja L M:=by repeat'(first|exact trivial|refine⟨rfl,?_⟩)):Ru ac c s M H:=h.rP hl
end Go.al
namespace Go.al.R
section
open Go.al Go.Proofs
abbrev bh(n:Nat):={a:aX//(Tryz.prog.funcs[n]?).bind (yU Tryz.prog)=some a}
abbrev BP:Program:={toTables:=Tryz.progTables,funcs:= #[]}
def qF(n:Nat):Code->Option bw
 |.region _ o d=>do
  let l<-o.toList.mapM (pf BP n o)
  some (.region (if d then ph l (Region.before o) [] (order l (Region.before o) o.size 0 [])else l))
 |.seq a b=>do
  let a<-qF n a
  let b<-qF n b
  some (match Ov.eH (.seq a b)with
   |some t=>.eH t
   |none=>.seq a b)
 |.cond c a b=>do some (.cond (<-fj BP n c) (<-qF n a) (<-qF n b))
 |.block i b=>(qF n b).map (.block i)
 |.loop b=>(qF n b).map .loop
 |.rangeFunc f p a b=>do some (.rangeFunc (<-fj BP n f) (p.toList.map ah.cV) (<-qF n a) (<-qF n b))
 |.scope b=>qF n b
 |.exit i=>some (.exit i)
 |.ret=>some .ret
 |_=>some .skip
def Td(f:Func):Option aX:=do some (.code f.ntmps (<-f.results.toList.mapM (wA BP f.ntmps)) (<-qF f.ntmps (<-f.body)))
theorem Te(n:Nat): @OfNat.ofNat Int n (@instOfNat n)=ah0 (@OfNat.ofNat Nat n (instOfNatNat n)):=rfl
theorem Tf(n:Nat): -ah0 (n+1)=Int.negSucc n:=rfl
theorem bi{a b:aX}{o:Option aX}(f:Func)(h:Td f=some a:=by cbv)(e:a=b:=by simp -failIfUnchanged only[Te,Tf];rfl)(k:o=some b:=by kernel_rfl):o=some b:=k
end
end Go.al.R
end
