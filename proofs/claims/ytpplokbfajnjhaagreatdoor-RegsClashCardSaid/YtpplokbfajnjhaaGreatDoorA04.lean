/- A part. No conditions. -/
import Derived.Test.YtpplokbfajnjhaaGreatDoorA03
import Derived.Test.YtpplokbfajnjhaaGreatDoorProg
import Derived.KernelRfl
set_option linter.all false
open List renaming replicate->acJ
open Nat renaming beq->ah8,blt->aiu,ble->ai0
open Int renaming ofNat->aiC
open Eq renaming mpr->ajP
noncomputable section
namespace Go.al
section
theorem cw{c:Type}{a b:c}(h:a=b:=by(conv=>lhs;whnf)<;>rfl):a=b:=h
theorem dC{p:Prop}(h:p:=by repeat'(first|exact trivial|refine⟨rfl,?_⟩)):p:=h
variable{ab:Nat->aV}
abbrev Kn:=List (ah×AV)
def lk:Kn->ah->AV
 |[],_=>.bM
 |(q,v)::l,p=>match ah.beq q p with
  |true=>v
  |false=>lk l p
def Le(L:Kn)(ac:az AV):Prop:=∀p v,lk L p=v->v=.bM\/ac.get .ajS p=v
def aT(L:Kn):aJ->AV
 |.t p=>lk L p
 |.c v=>v
def bq(L:Kn)(d:Option ah)(v:AV):Kn:=
 match d with
 |some p=>(p,v)::L
 |none=>L
theorem Le.get{L:Kn}{ac:az AV}(h:Le L ac){p:ah}{v:AV}(b:lk L p=v)(a:v.br=true):ac.get .ajS p=v:=by
 rcases h p v b with e|e;·rw[e]at a;cases a
 exact e
theorem Le.gv{L:Kn}{ac:az AV}(h:Le L ac){x:aJ}{v:AV}(a:aT L x=v)(b:v.br=true):gv ac x=v:=by cases x with|t p=>exact h.get a b|c w=>trivial
theorem Le.set{L:Kn}{ac:az AV}(h:Le L ac)(d:Option ah)(v:AV):Le (bq L d v) (aO ac d v):=by cases d with|none=>exact h|some p=>intro q w a;simp only[bq,aO,lk]at a⊢;rw[az.aF];cases hb:ah.beq p q with|true=>rw[hb]at a;rw[aG (ah.fg.1 hb).symm];exact .inr a|false=>rw[hb]at a;rw[an λe=>by rw[e,ah.fg.2 rfl]at hb;cases hb];exact h q w a
def iZ:Kn->Kn->Prop
 |[],_=>True
 |(p,v)::l,m=>lk m p=v/\iZ l m
theorem iZ.get:∀{l m:Kn},iZ l m->∀p v,lk l p=v->v=.bM\/lk m p=v|[],_,_,p,v,h=>.inl h.symm|(q,w)::l,m,h,p,v,a=>by simp only[lk]at a;cases hb:ah.beq q p with|true=>rw[hb]at a;rw[<-ah.fg.1 hb];exact .inr (h.1.trans a)|false=>rw[hb]at a;exact iZ.get h.2 p v a
theorem Le.ph{L M:Kn}{ac:az AV}(h:iZ L M)(a:Le M ac):Le L ac:=λp v b=>by
 rcases h.get p v b with e|e;·grind
 exact a p v e
inductive SI where
 |code(c:bm)
 |aE(id:Nat)
structure Cx where
 K:bY->Fr->ai->Prop
 M:List ah
 R:Option ah
def iN(ab:Nat->aV)(K:bY->Fr->ai->Prop):List SI->bY->Fr->ai->Prop
 |[],j,fr,H=>K j fr H
 |.code c::s,j,fr,H=>match j with
  |.none=>∃n,Xc ab n c fr H (iN ab K s)
  |j=>iN ab K s j fr H
 |.aE id::s,j,fr,H=>match j with
  |.exit i=>if ah8 i id then iN ab K s .none fr H else iN ab K s (.exit i) fr H
  |j=>iN ab K s j fr H
def RJ(ab:Nat->aV)(c:Cx)(j:bY)(s:List SI)(L:Kn)(H:ai):Prop:=∀ac,Le L ac->iN ab c.K s j ⟨ac,c.M,c.R⟩ H
def Ru(ab:Nat->aV)(c:Cx)(s:List SI)(L:Kn)(H:ai):Prop:=RJ ab c .none s L H
def RO(ab:Nat->aV)(c:Cx)(l:List bD)(s:List SI)(L:Kn)(H:ai):Prop:=∀ac,Le L ac->∃n,Xo ab n l ⟨ac,c.M,c.R⟩ H (iN ab c.K s .none)
def YF(ab:Nat->aV)(f:AV)(args:List AV)(H:ai)(K:KT):Prop:=∃n,Xf ab n f args H K
abbrev YN(ab:Nat->aV)(f:Nat):=YF ab (.func f [] [])
variable{c:Cx}{s:List SI}{L:Kn}{H:ai}
theorem Ru.ph{M:Kn}(h:Ru ab c s L H)(hl:iZ L M):Ru ab c s M H:=λac a=>h ac (a.ph hl)
theorem YF.mono{f:AV}{args:List AV}{K a:KT}(h:YF ab f args H K)(b:∀v H,K v H->a v H):YF ab f args H a:=by obtain⟨n,h⟩:=h;exact⟨n,h.mono (afM _) b⟩
theorem kf{n:Nat}{a:bm}{s:List SI}{b:bm}{fr:Fr}{K:bY->Fr->ai->Prop}(h:Xc ab n a fr H (iN ab K (.code b::s))):∃k,Xc ab k a fr H λj fr H=>match j with|.none=>Xc ab k b fr H (iN ab K s)|j=>iN ab K s j fr H:=by obtain⟨m,d⟩:=(w7 ab n).exec (K:=λm j fr H=>match j with|.none=>Xc ab m b fr H (iN ab K s)|j=>iN ab K s j fr H) (λm e j fr H c hj=>by cases j with|none=>exact hj.mono c λ_ _ _ h=>h|exit i=>omega|ret=>omega) ((mono ab n).exec (afM _) (λj fr H hj=>by cases j with|none=>trivial|exit i=>exact⟨0,hj⟩|ret=>exact⟨0,hj⟩) h);refine⟨max n m,(show Xc ab n a fr H _ from d).mono (Nat.le_max_left ..) λj fr H hj=>?_⟩;cases j with|none=>exact(show Xc ab m b fr H _ from hj).mono (Nat.le_max_right ..) λ_ _ _ h=>h|exit i=>omega|ret=>omega
theorem Ru.seq{a b:bm}(h:Ru ab c (.code a:: .code b::s) L H):Ru ab c (.code (.seq a b)::s) L H:=λac d=>by obtain⟨n,e⟩:=h ac d;obtain⟨k,f⟩:=kf e;exact⟨k+1,Xc.seq f⟩
theorem Ru.loop{b:bm}(h:Ru ab c (.code b:: .code (.loop b)::s) L H):Ru ab c (.code (.loop b)::s) L H:=λac a=>by obtain⟨n,d⟩:=h ac a;obtain⟨k,e⟩:=kf d;exact⟨k+1,Xc.loop e⟩
theorem Ru.region{l:List bD}(h:RO ab c l s L H):Ru ab c (.code (.region l)::s) L H:=λac a=>by obtain⟨n,b⟩:=h ac a;exact⟨n+1,Xc.region b⟩
theorem Ru.skip(h:Ru ab c s L H):Ru ab c (.code .skip::s) L H:=λac a=>⟨1,Xc.skip (h ac a)⟩
theorem Ru.block{id:Nat}{b:bm}(h:Ru ab c (.code b:: .aE id::s) L H):Ru ab c (.code (.block id b)::s) L H:=λac a=>by obtain⟨n,d⟩:=h ac a;exact⟨n+1,Xc.block (d.mono (afM _) λj fr H hj=>by cases j<;>exact hj)⟩
theorem Ru.mT{x:aJ}{a b:bm}(h:Ru ab c (.code a::s) L H)(e:aT L x=.bool true:=by exact cw):Ru ab c (.code (.cond x a b)::s) L H:=λac d=>by obtain⟨n,f⟩:=h ac d;exact⟨n+1,Xc.mT (d.gv e rfl) f⟩
theorem Ru.lO{x:aJ}{a b:bm}(h:Ru ab c (.code b::s) L H)(e:aT L x=.bool false:=by exact cw):Ru ab c (.code (.cond x a b)::s) L H:=λac d=>by obtain⟨n,f⟩:=h ac d;exact⟨n+1,Xc.lO (d.gv e rfl) f⟩
theorem Ru.eC{x:aJ}{a b:bm}{t:Bool}(h1:t=true->Ru ab c (.code a::s) L H)(h2:t=false->Ru ab c (.code b::s) L H)(d:aT L x=.bool t:=by exact cw):Ru ab c (.code (.cond x a b)::s) L H:=by cases t with|true=>exact Ru.mT (h1 rfl) d|false=>exact Ru.lO (h2 rfl) d
theorem Ru.cond{x:aJ}{a b:bm}{p:Prop} [Decidable p](h1:p->Ru ab c (.code a::s) L H)(h2:¬p->Ru ab c (.code b::s) L H)(d:aT L x=.bool (decide p):=by exact cw):Ru ab c (.code (.cond x a b)::s) L H:=Ru.eC (λh=>h1 (of_decide_eq_true h)) (λh=>h2 (of_decide_eq_false h)) d
theorem Ru.exit{id:Nat}(h:RJ ab c (.exit id) s L H):Ru ab c (.code (.exit id)::s) L H:=λac a=>⟨1,Xc.exit (h ac a)⟩
theorem Ru.ret(h:RJ ab c .ret s L H):Ru ab c (.code .ret::s) L H:=λac a=>⟨1,Xc.ret (h ac a)⟩
theorem Ru.aE{id:Nat}(h:Ru ab c s L H):Ru ab c (.aE id::s) L H:=h
theorem RJ.code{a:bm}{i:Nat}(h:RJ ab c (.exit i) s L H):RJ ab c (.exit i) (.code a::s) L H:=h
theorem RJ.pi{i:Nat}(h:Ru ab c s L H):RJ ab c (.exit i) (.aE i::s) L H:=λac a=>by simp only[iN,aje,bi];exact h ac a
theorem RJ.TJ{i id:Nat}(hi:ah8 i id=false)(h:RJ ab c (.exit i) s L H):RJ ab c (.exit i) (.aE id::s) L H:=λac a=>by simp only[iN,hi,acg,bF];exact h ac a
theorem RJ.TK{a:bm}(h:RJ ab c .ret s L H):RJ ab c .ret (.code a::s) L H:=h
theorem RJ.TL{id:Nat}(h:RJ ab c .ret s L H):RJ ab c .ret (.aE id::s) L H:=h
theorem RJ.rE:∀{s:List SI},RJ ab c .ret [] L H->RJ ab c .ret s L H|[],h=>h|.code _::_,h=>RJ.TK (RJ.rE h)|.aE _::_,h=>RJ.TL (RJ.rE h)
def zj(i:Nat):List SI->Option (List SI)
 |[]=>none
 |.code _::s=>zj i s
 |.aE id::s=>if ah8 i id then some s else zj i s
theorem RJ.EU{i:Nat}:∀{s t:List SI},zj i s=some t->Ru ab c t L H->RJ ab c (.exit i) s L H
 |[],_,h,_=>by cases h
 |.code _::s,t,h,k=>RJ.code (RJ.EU h k)
 |.aE id::s,t,h,k=>by
  simp only[zj]at h;split at h;·simp_all[ah5,RJ.pi]
  rename_i e;exact RJ.TJ (by grind) (RJ.EU h k)
theorem Ru.exitTo{i:Nat}{t:List SI}(k:Ru ab c t L H)(h:zj i s=some t:=by rfl):Ru ab c (.code (.exit i)::s) L H:=Ru.exit (RJ.EU h k)
theorem RO.nil(h:Ru ab c s L H):RO ab c [] s L H:=λac a=>⟨1,Xo.nil (h ac a)⟩
theorem RO.op{d:Option ah}{op:bJ}{l:List bD}{v:AV}{H':ai}(he:∀ac,Le L ac->aH op ac H=some (v,H'))(h:RO ab c l s (bq L d v) H'):RO ab c (⟨d,op,none,[],[]⟩::l) s L H:=λac a=>by obtain⟨n,b⟩:=h _ (a.set d v);exact⟨n+1,Xo.op (he ac a) b⟩
theorem RO.call{d:Option ah}{f:aJ}{args:List aJ}{l:List bD}{fv:AV}{b:List AV}(h:YF ab fv b H λv H'=>RO ab c l s (bq L d v) H')(k:aT L f=fv:=by exact cw)(g:fv.br=true:=by first|rfl|assumption)(o:args.map (aT L)=b:=by rfl)(i:b.all AV.br=true:=by first|rfl|assumption):RO ab c (⟨d,.call f args,none,[],[]⟩::l) s L H:=λac a=>by
 obtain⟨n,p⟩:=h;have j:args.map (gv ac)=b:=by subst o;refine ai7 λx q=>?_;exact a.gv rfl (ai8.1 i _ (aio q))
 obtain⟨m,e⟩:=(w7 ab n).call (K:=λm v H'=>Xo ab m l ⟨aO ac d v,c.M,c.R⟩ H' (iN ab c.K s .none)) (λm t v H e h=>h.mono e λ_ _ h=>h) ((mono ab n).call (afM _) (λv H' r=>r _ (a.set d v)) p);refine⟨max n m+1,Xo.call ?_⟩;rw[a.gv k g,j];exact(show Xf ab n fv b H _ from e).mono (Nat.le_max_left ..) λv H' h=>(show Xo ab m l _ H' _ from h).mono (Nat.le_max_right ..) λ_ _ h=>h
def mZ(a:List gE)(K:KT)(j:bY)(fr:Fr)(H:ai):Prop:=
 match j with
 |.exit _=>False
 |_=>match iw H fr.bA with
  |some H=>match fc fr.ac H a with
   |some l=>K (fZ l) H
   |none=>False
  |none=>False
abbrev sU(a:List gE)(K:KT):Cx:=⟨mZ a K,[],none⟩
theorem Kb:∀(l:List AV)(p q:ah)(t:az AV),(jf l p t).get .ajS q=if p.am<=q.am/\q.am<p.am+l.length then l.getD (q.am - p.am) .ajS else t.get .ajS q
 |[],p,q,t=>by simp[jf,List.length_nil,an]
 |v::l,p,q,t=>by
  simp only[jf];rw[Kb l p.succ q (t.set .ajS p v),ah.eX,az.aF];simp only[air];by_cases h1:p.am+1<=q.am/\q.am<p.am+1+l.length;·grind
  rw[an h1];by_cases h2:q=p;·grind
  rw[an h2,an];grind[ah.rj]
def sV:List AV->Nat->Kn
 |[],_=>[]
 |v::l,k=>(ah.cG k,v)::sV l (k+1)
theorem Le.sV:∀(l:List AV)(k:Nat)(ac:az AV),(∀i(h:i<l.length),ac.get .ajS (ah.cG (k+i))=l[i])->Le (sV l k) ac|[],_,_,_=>λp v h=>.inl h.symm|w::l,k,ac,h=>λp v a=>by simp only[Go.al.sV,lk]at a;cases hb:ah.beq (ah.cG k) p with|true=>rw[hb]at a;rw[<-ah.fg.1 hb,<-a];exact .inr (h 0 aC)|false=>rw[hb]at a;exact Le.sV l (k+1) ac (λi hi=>by have:=h (i+1) (by simpa using hi);grind) p v a
theorem Le.args(l:List AV):Le (Go.al.sV l 0) (jf l .xH .aR):=Le.sV l 0 _ λi hi=>by rw[Kb,ah.kA,aif,aG (by grind[ah.am])];simp[hi,ah.am,Nat.add_sub_cancel,ah3,getElem?_pos,aiX]
theorem YF.code{f a:Nat}{b:List gE}{body:bm}{fs as_ cs:List AV}{K:KT}(c:ab f=.code a b body)(hl:(fs++as_++cs).length<=a)(h:Ru ab (sU b K) [.code body] (sV (fs++as_++cs) 0) H):YF ab (.func f fs cs) as_ H K:=by obtain⟨n,d⟩:=h _ (Le.args (fs++as_++cs));refine⟨n+1,?_⟩;simp only[Xf,fu,c];rw[aG (aiB hl)];refine Xc.mono (afM _) (λj fr H hj=>?_) d;cases j with|exit i=>exact hj|none=>exact hj|ret=>exact hj
theorem YF.fF{f:Nat}{g:List AV->ai->Option (AV×ai)}{fs as_ cs:List AV}{v:AV}{H':ai}{K:KT}(a:ab f=.fF g)(hg:g (fs++as_++cs) H=some (v,H'))(h:K v H'):YF ab (.func f fs cs) as_ H K:=by refine⟨1,?_⟩;simp_all[Xf,fu]
def uE(L:Kn):List gE->List AV->Prop
 |[],[]=>True
 |.tmp p::a,v::b=>lk L p=v/\v.br=true/\uE L a b
 |_,_=>False
theorem uE.uF{ac:az AV}(a:Le L ac):∀{b:List gE}{c:List AV},uE L b c->fc ac H b=some c|[],[],_=>rfl|.tmp p::b,v::c,h=>by simp only[fc,uE.uF a h.2.2,aip,a.get h.1 h.2.1]|[],_::_,h=>h.elim|.tmp _::_,[],h=>h.elim|.cell .. ::_,[],h=>h.elim|.cell .. ::_,_::_,h=>h.elim
theorem RJ.aq{j:bY}{b:List gE}{K:KT}{vs:List AV}(hj:j=.none\/j=.ret)(c:uE L b vs)(h:K (fZ vs) H):RJ ab (sU b K) j [] L H:=λac a=>by have:=c.uF (H:=H) a;rcases hj with rfl|rfl<;>simp only[iN,mZ,iw,this]<;>exact h
theorem Ru.aq{a:List gE}{K:KT}{vs:List AV}(b:uE L a vs)(h:K (fZ vs) H):Ru ab (sU a K) [] L H:=RJ.aq (.inl rfl) b h
theorem Ru.kJ{a:List gE}{K:KT}{vs:List AV}{s:List SI}(b:uE L a vs)(h:K (fZ vs) H):Ru ab (sU a K) (.code .ret::s) L H:=Ru.ret (RJ.rE (RJ.aq (.inr rfl) b h))
theorem Ru.aL{p:ah}{K:KT}{v:AV}{s:List SI}(h:K v H)(a:lk L p=v:=by exact cw)(hd:v.br=true:=by first|rfl|assumption):Ru ab (sU [.tmp p] K) (.code .ret::s) L H:=Ru.kJ (vs:=[v]) ⟨a,hd,trivial⟩ h
theorem Ru.kg{p q:ah}{K:KT}{v w:AV}{s:List SI}(h:K (.tuple [v,w]) H)(c:lk L p=v:=by exact cw)(hd:v.br=true:=by first|rfl|assumption)(a:lk L q=w:=by exact cw)(b:w.br=true:=by first|rfl|assumption):Ru ab (sU [.tmp p,.tmp q] K) (.code .ret::s) L H:=Ru.kJ (vs:=[v,w]) ⟨c,hd,a,b,trivial⟩ h
end
end Go.al
namespace Go.al.R
structure Kp(Q:Prop):Prop where
 q:Q
theorem au{P Q:Prop}(k:Q)(h:Kp Q->P:=by intro k;(repeat(first|refine RO.bg ?_|refine RO.jd ?_|refine RO.zk ?_|refine RO.lss ?_|refine RO.nil ?_|refine Ru.region ?_|refine Ru.seq ?_|refine Ru.block ?_|refine Ru.skip ?_|refine Ru.aE ?_|refine RO.zl ?_|refine RO.neq ?_|refine RO.zm ?_|refine RO.eql ?_|refine RO.zn ?_|refine RO.gtr ?_|refine RO.zo ?_|refine RO.geq ?_|refine RO.zp ?_|refine RO.leq ?_|refine RO.zq ?_|refine RO.be ?_|refine RO.eF ?_|refine RO.extract ?_|refine RO.un ?_|refine RO.part ?_|refine RO.iU ?_|refine RO.build ?_|refine RO.lf ?_|refine RO.mG ?_|refine Ru.mT ?_|refine Ru.lO ?_|refine RO.rF ?_|refine RO.w8 ?_));exact k.1):P:=h ⟨k⟩
theorem aX{P Q:Prop}(k:Q)(h:Kp Q->P:=by intro k;(repeat(first|refine RO.bg ?_|refine RO.jd ?_|refine RO.zk ?_|refine RO.lss ?_|refine RO.nil ?_|refine Ru.region ?_|refine Ru.seq ?_|refine Ru.block ?_|refine Ru.skip ?_|refine Ru.aE ?_|refine RO.zl ?_|refine RO.neq ?_|refine RO.zm ?_|refine RO.eql ?_|refine RO.zn ?_|refine RO.gtr ?_|refine RO.zo ?_|refine RO.geq ?_|refine RO.zp ?_|refine RO.leq ?_|refine RO.zq ?_|refine RO.be ?_|refine RO.eF ?_|refine RO.extract ?_|refine RO.un ?_|refine RO.part ?_|refine RO.iU ?_|refine RO.build ?_|refine RO.lf ?_|refine RO.mG ?_|refine Ru.mT ?_|refine Ru.lO ?_|refine RO.rF ?_|refine RO.w8 ?_|refine RO.BE ?_|refine RO.dI ?_|refine RO.qS ?_|refine RO.zr ?_|refine RO.zt ?_|refine RO.eD U 0 ?_|refine RO.eD U 1 ?_|refine RO.eD U 2 ?_|refine RO.eD U 3 ?_|refine RO.eD U 4 ?_|refine RO.be ?_ (hc:=hat _ _ rfl)|refine RO.eF ?_ (hc:=hrd)|refine RO.kr ?_|refine RO.mI ?_));exact k.1):P:=h ⟨k⟩
theorem af{P Q:Prop}(k:Q)(h:Kp Q->P:=by intro k;(repeat(first|refine RO.bg ?_|refine RO.jd ?_|refine RO.zk ?_|refine RO.lss ?_|refine RO.nil ?_|refine Ru.region ?_|refine Ru.seq ?_|refine Ru.block ?_|refine Ru.skip ?_|refine Ru.aE ?_|refine RO.zl ?_|refine RO.neq ?_|refine RO.zm ?_|refine RO.eql ?_|refine RO.zn ?_|refine RO.gtr ?_|refine RO.zo ?_|refine RO.geq ?_|refine RO.zp ?_|refine RO.leq ?_|refine RO.zq ?_|refine RO.be ?_|refine RO.eF ?_|refine RO.extract ?_|refine RO.un ?_|refine RO.part ?_|refine RO.iU ?_|refine RO.build ?_|refine RO.lf ?_|refine RO.mG ?_|refine Ru.mT ?_|refine Ru.lO ?_|refine RO.rF ?_|refine RO.w8 ?_|refine RO.BE ?_|refine RO.dI ?_|refine RO.qS ?_|refine RO.zr ?_|refine RO.zt ?_|refine RO.eD U 0 ?_|refine RO.eD U 1 ?_|refine RO.eD U 2 ?_|refine RO.eD U 3 ?_|refine RO.eD U 4 ?_|refine RO.be ?_ (hc:=hat _ _ rfl)|refine RO.eF ?_ (hc:=hrd)|refine RO.kr ?_|refine RO.mI ?_|refine RO.nilCheck ?_|refine RO.xe ?_|refine RO.BF ?_));exact k.1):P:=h ⟨k⟩
theorem gK{P Q:Prop}(k:Q)(h:Kp Q->P:=by intro k;(repeat(first|refine RO.bg ?_|refine RO.jd ?_|refine RO.zk ?_|refine RO.lss ?_|refine RO.nil ?_|refine Ru.skip ?_|refine Ru.aE ?_|refine RO.zl ?_|refine RO.neq ?_|refine RO.zm ?_|refine RO.eql ?_|refine RO.zn ?_|refine RO.gtr ?_|refine RO.zo ?_|refine RO.geq ?_|refine RO.zp ?_|refine RO.leq ?_|refine RO.zq ?_|refine RO.be ?_|refine RO.eF ?_|refine RO.extract ?_|refine RO.un ?_|refine RO.part ?_|refine RO.iU ?_|refine RO.build ?_|refine RO.lf ?_|refine RO.mG ?_|refine Ru.mT ?_|refine Ru.lO ?_|refine RO.rF ?_|refine RO.w8 ?_|refine RO.BE ?_|refine RO.dI ?_|refine RO.qS ?_|refine RO.zr ?_|refine RO.zt ?_|refine RO.eD U 0 ?_|refine RO.eD U 1 ?_|refine RO.eD U 2 ?_|refine RO.eD U 3 ?_|refine RO.eD U 4 ?_|refine RO.be ?_ (hc:=hat _ _ rfl)|refine RO.eF ?_ (hc:=hrd)|refine RO.kr ?_|refine RO.mI ?_|refine RO.nilCheck ?_|refine RO.xe ?_|refine RO.BF ?_));exact k.1):P:=h ⟨k⟩
theorem nO{P Q:Prop}(k:Q)(h:Kp Q->P:=by intro k;(first|refine RO.bg ?_|refine RO.jd ?_|refine RO.zk ?_|refine RO.lss ?_|refine RO.nil ?_|refine Ru.region ?_|refine Ru.seq ?_|refine Ru.block ?_|refine Ru.skip ?_|refine Ru.aE ?_|refine RO.zl ?_|refine RO.neq ?_|refine RO.zm ?_|refine RO.eql ?_|refine RO.zn ?_|refine RO.gtr ?_|refine RO.zo ?_|refine RO.geq ?_|refine RO.zp ?_|refine RO.leq ?_|refine RO.zq ?_|refine RO.be ?_|refine RO.eF ?_|refine RO.extract ?_|refine RO.un ?_|refine RO.part ?_|refine RO.iU ?_|refine RO.build ?_|refine RO.lf ?_|refine RO.mG ?_|refine Ru.mT ?_|refine Ru.lO ?_|refine RO.rF ?_|refine RO.w8 ?_|refine RO.BE ?_|refine RO.dI ?_|refine RO.qS ?_|refine RO.zr ?_|refine RO.zt ?_|refine RO.eD U 0 ?_|refine RO.eD U 1 ?_|refine RO.eD U 2 ?_|refine RO.eD U 3 ?_|refine RO.eD U 4 ?_|refine RO.be ?_ (hc:=hat _ _ rfl)|refine RO.eF ?_ (hc:=hrd)|refine RO.kr ?_|refine RO.mI ?_|refine RO.nilCheck ?_|refine RO.xe ?_|refine RO.BF ?_);exact k.1):P:=h ⟨k⟩
theorem fj{P Q:Prop}(k:Q)(h:Kp Q->P:=by intro k;(repeat(first|refine RO.TM ?_|refine RO.TN ?_|refine nO ?_));exact k.1):P:=h ⟨k⟩
end Go.al.R
namespace Go.al
section
variable{ab:Nat->aV}{c:Cx}{s:List SI}{L:Kn}{H:ai}{d:Option ah}{l:List bD}
theorem TO{k:Nat}{n:Int}(h:(ck k).wrap n=n):fX k n=n:=by
 unfold fX;split;·split;all_goals trivial
 .split;·rfl
  exact h
 .split;all_goals trivial
 trivial
theorem m8{n:Int}(h1: -9223372036854775808<=n)(h2:n<9223372036854775808):fX 3 n=n:=by cases n with|ofNat m=>rw[ahU]at h2;have:aiu m 9223372036854775808=true:=ajP aiV aa;simp only[fX,this,bi]|negSucc m=>have:aiu m 9223372036854775808=true:=ajP aiV aa;simp[this,fX,bi]
theorem RO.bg{x:aJ}{v:AV}(h:RO ab c l s (bq L d v) H)(b:aT L x=v:=by exact cw)(e:v.br=true:=by first|rfl|assumption):RO ab c (⟨d,.bg x,none,[],[]⟩::l) s L H:=RO.op (λac a=>by simp only[aH,a.gv b e]) h
theorem RO.arith{op:BinOp}{k:Nat}{x y:aJ}{a b:Int}{v:AV}(h:RO ab c l s (bq L d v) H)(f:aT L x=.int k a:=by exact cw)(g:aT L y=.int k b:=by exact cw)(hv:fG op k a b=some v:=by exact cw):RO ab c (⟨d,.arith op k x y,none,[],[]⟩::l) s L H:=RO.op (λac e=>by simp only[aH,e.gv f rfl,e.gv g rfl,yf,aje,ajL,bi,hv,aip]) h
theorem RO.add{x y:aJ}{a b:Int}(h:RO ab c l s (bq L d (.int 3 (a+b))) H)(e:aT L x=.int 3 a:=by exact cw)(f:aT L y=.int 3 b:=by exact cw)(h1: -9223372036854775808<=a+b:=by omega)(h2:a+b<9223372036854775808:=by omega):RO ab c (⟨d,.arith .add 3 x y,none,[],[]⟩::l) s L H:=RO.arith h e f (by simp[h1,h2,fG,m8])
theorem RO.zq{x:aJ}{a b:Nat}{y:aJ}(h:RO ab c l s (bq L d (.int 3 (.ofNat (a+b)))) H)(e:aT L x=.int 3 (.ofNat a):=by exact cw)(f:aT L y=.int 3 (.ofNat b):=by exact cw)(h2:a+b<9223372036854775808:=by omega):RO ab c (⟨d,.arith .add 3 x y,none,[],[]⟩::l) s L H:=RO.add (a:=.ofNat a) (b:=.ofNat b) h e f (by grind) (by grind)
theorem RO.sub{x y:aJ}{a b:Int}(h:RO ab c l s (bq L d (.int 3 (a - b))) H)(e:aT L x=.int 3 a:=by exact cw)(f:aT L y=.int 3 b:=by exact cw)(h1: -9223372036854775808<=a - b:=by omega)(h2:a - b<9223372036854775808:=by omega):RO ab c (⟨d,.arith .sub 3 x y,none,[],[]⟩::l) s L H:=RO.arith h e f (by simp[h1,h2,fG,m8])
theorem RO.eql{k:Nat}{x y:aJ}{a b:Int}(h:RO ab c l s (bq L d (.bool (decide (a=b)))) H)(e:aT L x=.int k a:=by exact cw)(f:aT L y=.int k b:=by exact cw):RO ab c (⟨d,.arith .eql k x y,none,[],[]⟩::l) s L H:=RO.arith h e f (by grind[fG,dV])
theorem RO.neq{k:Nat}{x y:aJ}{a b:Int}(h:RO ab c l s (bq L d (.bool (decide (a≠b)))) H)(e:aT L x=.int k a:=by exact cw)(f:aT L y=.int k b:=by exact cw):RO ab c (⟨d,.arith .neq k x y,none,[],[]⟩::l) s L H:=RO.arith h e f (by simp only[fG,dV];grind)
theorem RO.lss{k:Nat}{x y:aJ}{a b:Int}(h:RO ab c l s (bq L d (.bool (decide (a<b)))) H)(e:aT L x=.int k a:=by exact cw)(f:aT L y=.int k b:=by exact cw):RO ab c (⟨d,.arith .lss k x y,none,[],[]⟩::l) s L H:=RO.arith h e f (by simp[fG,kR])
theorem RO.leq{k:Nat}{x y:aJ}{a b:Int}(h:RO ab c l s (bq L d (.bool (decide (a<=b)))) H)(e:aT L x=.int k a:=by exact cw)(f:aT L y=.int k b:=by exact cw):RO ab c (⟨d,.arith .leq k x y,none,[],[]⟩::l) s L H:=RO.arith h e f (by simp only[fG,kR];congr 2;grind)
theorem RO.gtr{k:Nat}{x y:aJ}{a b:Int}(h:RO ab c l s (bq L d (.bool (decide (b<a)))) H)(e:aT L x=.int k a:=by exact cw)(f:aT L y=.int k b:=by exact cw):RO ab c (⟨d,.arith .gtr k x y,none,[],[]⟩::l) s L H:=RO.arith h e f (by simp[fG,kR])
theorem RO.geq{k:Nat}{x y:aJ}{a b:Int}(h:RO ab c l s (bq L d (.bool (decide (b<=a)))) H)(e:aT L x=.int k a:=by exact cw)(f:aT L y=.int k b:=by exact cw):RO ab c (⟨d,.arith .geq k x y,none,[],[]⟩::l) s L H:=RO.arith h e f (by simp only[fG,kR];congr 2;grind)
theorem RO.zk{k:Nat}{x y:aJ}{a b:Nat}(h:RO ab c l s (bq L d (.bool (decide (a<b)))) H)(e:aT L x=.int k (.ofNat a):=by exact cw)(f:aT L y=.int k (.ofNat b):=by exact cw):RO ab c (⟨d,.arith .lss k x y,none,[],[]⟩::l) s L H:=RO.lss (a:=.ofNat a) (b:=.ofNat b) (by simpa using h) e f
theorem RO.zp{k:Nat}{x y:aJ}{a b:Nat}(h:RO ab c l s (bq L d (.bool (decide (a<=b)))) H)(e:aT L x=.int k (.ofNat a):=by exact cw)(f:aT L y=.int k (.ofNat b):=by exact cw):RO ab c (⟨d,.arith .leq k x y,none,[],[]⟩::l) s L H:=RO.leq (a:=.ofNat a) (b:=.ofNat b) (by simpa using h) e f
theorem RO.zn{k:Nat}{x y:aJ}{a b:Nat}(h:RO ab c l s (bq L d (.bool (decide (b<a)))) H)(e:aT L x=.int k (.ofNat a):=by exact cw)(f:aT L y=.int k (.ofNat b):=by exact cw):RO ab c (⟨d,.arith .gtr k x y,none,[],[]⟩::l) s L H:=RO.gtr (a:=.ofNat a) (b:=.ofNat b) (by simpa using h) e f
theorem RO.zo{k:Nat}{x y:aJ}{a b:Nat}(h:RO ab c l s (bq L d (.bool (decide (b<=a)))) H)(e:aT L x=.int k (.ofNat a):=by exact cw)(f:aT L y=.int k (.ofNat b):=by exact cw):RO ab c (⟨d,.arith .geq k x y,none,[],[]⟩::l) s L H:=RO.geq (a:=.ofNat a) (b:=.ofNat b) (by simpa using h) e f
theorem RO.zm{k:Nat}{x y:aJ}{a b:Nat}(h:RO ab c l s (bq L d (.bool (decide (a=b)))) H)(e:aT L x=.int k (.ofNat a):=by exact cw)(f:aT L y=.int k (.ofNat b):=by exact cw):RO ab c (⟨d,.arith .eql k x y,none,[],[]⟩::l) s L H:=RO.eql (a:=.ofNat a) (b:=.ofNat b) (by rw[show decide (aiC a=aiC b)=decide (a=b)from decide_eq_decide.2 ⟨λh=>Int.ofNat.inj h,λh=>congrArg _ h⟩];exact h) e f
theorem RO.zl{k:Nat}{x y:aJ}{a b:Nat}(h:RO ab c l s (bq L d (.bool (decide (a≠b)))) H)(f:aT L x=.int k (.ofNat a):=by exact cw)(g:aT L y=.int k (.ofNat b):=by exact cw):RO ab c (⟨d,.arith .neq k x y,none,[],[]⟩::l) s L H:=RO.neq (a:=.ofNat a) (b:=.ofNat b) (by rw[show decide (aiC a≠aiC b)=decide (a≠b)from decide_eq_decide.2 ⟨λh e=>h (congrArg _ e),λh e=>h (Int.ofNat.inj e)⟩];exact h) f g
theorem RO.un{op:UnOp}{x:aJ}{w v:AV}(h:RO ab c l s (bq L d v) H)(b:aT L x=w:=by exact cw)(e:w.br=true:=by first|rfl|assumption)(f:Av op w=some v:=by exact cw):RO ab c (⟨d,.unary op x,none,[],[]⟩::l) s L H:=RO.op (λac a=>by simp only[aH,a.gv b e,f,aip]) h
theorem RO.eq{neg:Bool}{e:dA}{x y:aJ}{a b:AV}{t:Bool}(h:RO ab c l s (bq L d (.bool (t !=neg))) H)(g:aT L x=a:=by exact cw)(i:a.br=true:=by first|rfl|assumption)(j:aT L y=b:=by exact cw)(hb:b.br=true:=by first|rfl|assumption)(ht:db 64 e a b=some t:=by first|assumption|rfl):RO ab c (⟨d,.eq neg e x y,none,[],[]⟩::l) s L H:=RO.op (λac f=>by simp only[aH,f.gv g i,f.gv j hb,ht,aip]) h
theorem RO.be{x:aJ}{i:ah}{o:Nat}{v:AV}(h:RO ab c l s (bq L d v) H)(hx:aT L x=.aD i o:=by exact cw)(hc:aY H i o=some v:=by assumption):RO ab c (⟨d,.be x,none,[],[]⟩::l) s L H:=RO.op (λac a=>im (a.gv hx rfl) hc) h
theorem RO.eF{n:Nat}{x:aJ}{i:ah}{o:Nat}{b:List AV}(h:RO ab c l s (bq L d (.agg b)) H)(hx:aT L x=.aD i o:=by exact cw)(hc:dE H i o n=some b:=by assumption):RO ab c (⟨d,.eF n x,none,[],[]⟩::l) s L H:=RO.op (λac a=>by simp only[aH,a.gv hx rfl,gY,hc,bi,aip]) h
theorem RO.store{n:Nat}{a x:aJ}{i:ah}{o:Nat}{v:AV}{H':ai}(e:gF H i o v.cells=some H')(h:RO ab c l s (bq L d .ajS) H')(f:aT L a=.aD i o:=by exact cw)(g:aT L x=v:=by exact cw)(j:v.br=true:=by first|rfl|assumption)(k:v.cells.length=n:=by rfl):RO ab c (⟨d,.store n a x,none,[],[]⟩::l) s L H:=RO.op (λac b=>by simp only[aH,b.gv f rfl,b.gv g j,k,bi,e]) h
theorem RO.dI{size:Nat}{x y:aJ}{i:ah}{o n b j k:Nat}{e:Bool}(h:RO ab c l s (bq L d (.aD i (o+j*size))) H)(f:aT L x=.slice i o n b e:=by exact cw)(g:aT L y=.int k (.ofNat j):=by exact cw)(hj:j<n:=by omega):RO ab c (⟨d,.dI size x y,none,[],[]⟩::l) s L H:=RO.op (λac a=>by have:aiu j n=true:=ajP aiV hj;simp only[aH,a.gv f rfl,a.gv g rfl,this,bi]) h
theorem RO.iU{off:Nat}{x:aJ}{i:ah}{o:Nat}(h:RO ab c l s (bq L d (.aD i (o+off))) H)(b:aT L x=.aD i o:=by exact cw):RO ab c (⟨d,.iU off x,none,[],[]⟩::l) s L H:=RO.op (λac a=>by simp only[aH,a.gv b rfl]) h
theorem RO.part{agg:Bool}{off size:Nat}{x:aJ}{b:List AV}{v:AV}(h:RO ab c l s (bq L d v) H)(e:aT L x=.agg b:=by exact cw)(f:pJ agg b off size=some v:=by exact cw):RO ab c (⟨d,.part agg off size x,none,[],[]⟩::l) s L H:=RO.op (λac a=>by simp only[aH,a.gv e rfl,f,aip]) h
theorem RO.extract{x:aJ}{i:Nat}{b:List AV}{v:AV}(h:RO ab c l s (bq L d v) H)(e:aT L x=.tuple b:=by exact cw)(f:nI b i=some v:=by exact cw):RO ab c (⟨d,.extract x i,none,[],[]⟩::l) s L H:=RO.op (λac a=>by simp only[aH,a.gv e rfl,f,aip]) h
def lenOf:AV->Option Nat
 |.slice _ _ n _ _=>some n
 |.bh=>some 0
 |_=>none
theorem RO.jd{x:aJ}{v:AV}{n:Nat}(h:RO ab c l s (bq L d (.int 3 (.ofNat n))) H)(b:aT L x=v:=by exact cw)(e:lenOf v=some n:=by first|rfl|assumption):RO ab c (⟨d,.jd x,none,[],[]⟩::l) s L H:=RO.op (λac a=>by
 have hd:v.br=true:=by cases v<;>first|rfl|cases e
 simp only[aH,a.gv b hd];grind[lenOf,Option.some.injEq,reduceCtorEq]) h
theorem RO.box{e:Nat}{x:aJ}{v:AV}(h:RO ab c l s (bq L d (.aD H.next 0)) (H.new (.cells (cq v.cells) v.cells.length e true [] 0)))(b:aT L x=v:=by exact cw)(f:v.br=true:=by first|rfl|assumption)(g:cU v.cells=true:=by rfl):RO ab c (⟨d,.box e x,none,[],[]⟩::l) s L H:=RO.op (λac a=>by simp only[aH,a.gv b f,g,bi]) h
theorem RO.alloc{e:Nat}{a:List AV}(h:RO ab c l s (bq L d (.aD H.next 0)) (H.new (.cells (cq a) a.length e true [] 0))):RO ab c (⟨d,.alloc e a,none,[],[]⟩::l) s L H:=RO.op (λac b=>by rfl) h
def nU(L:Kn)(l:List AV):List (Nat×Nat×aJ)->Option (List AV)
 |[]=>some l
 |(off,size,x)::a=>
  let b:=(aT L x).cells
  if(aT L x).br&&decide (b.length=size)then(match qU l off b with|some c=>nU L c a|none=>none)else none
theorem EV{ac:az AV}(a:Le L ac):∀{f:List (Nat×Nat×aJ)}{c d:List AV},nU L c f=some d->lJ ac c f=some d
 |[],c,d,h=>by trivial
 |(off,size,x)::i,c,d,h=>by
  simp only[nU]at h;split at h
  .rename_i g;have b:=g;simp only[ah4]at b;have e:=a.gv (x:=x) rfl b.1;simp only[lJ];rw[e,aG g];split at h;·rename_i h2;rw[h2];exact EV a h
   grind
  grind
theorem RO.build{a vs:List AV}{b:List (Nat×Nat×aJ)}(h:RO ab c l s (bq L d (.agg vs)) H)(hl:nU L a b=some vs:=by exact cw):RO ab c (⟨d,.build a b,none,[],[]⟩::l) s L H:=RO.op (λac e=>by grind[aH,EV]) h
theorem RO.buildSlice{e n:Nat}{b vs:List AV}{f:List (Nat×Nat×aJ)}(h:RO ab c l s (bq L d (.slice H.next 0 n n true)) (H.new (.cells (cq vs) vs.length e true [] 0)))(hl:nU L (dY b n) f=some vs:=by exact cw)(g:cU vs=true:=by rfl):RO ab c (⟨d,.buildSlice e n b f,none,[],[]⟩::l) s L H:=RO.op (λac a=>by simp only[aH,EV a hl,g,bi]) h
theorem RO.lf{f:Nat}{a b:List aJ}{g bv:List AV}(h:RO ab c l s (bq L d (.func f g bv)) H)(j:a.map (aT L)=g:=by rfl)(i:g.all AV.br=true:=by rfl)(hb:b.map (aT L)=bv:=by rfl)(k:bv.all AV.br=true:=by rfl):RO ab c (⟨d,.lf f a b,none,[],[]⟩::l) s L H:=RO.op (λac m=>by
 have e:∀{a:List aJ}{g:List AV},a.map (aT L)=g->g.all AV.br=true->a.map (gv ac)=g:=λ{a g}j i=>by subst j;exact ai7 λx n=>m.gv rfl (ai8.1 i _ (aio n))
 simp[e,j,i,hb,k,aH]) h
theorem RO.kw(h:RO ab c l s (bq L d (.map H.next)) (H.new (.map [] 0))):RO ab c (⟨d,.kw,none,[],[]⟩::l) s L H:=RO.op (λac a=>by rfl) h
theorem RO.mG{t:Nat}{x:aJ}{v:AV}(h:RO ab c l s (bq L d (.iface t v)) H)(b:aT L x=v:=by exact cw)(e:v.br=true:=by first|rfl|assumption):RO ab c (⟨d,.mG t x,none,[],[]⟩::l) s L H:=RO.op (λac a=>by simp only[aH,a.gv b e]) h
theorem RO.mH{e bytes size:Nat}{b:List AV}{x y:aJ}{n k:Nat}(h:RO ab c l s (bq L d (.slice H.next 0 n k true)) (H.new (.cells (cq (dY b k)) (k*size) e true [] 0)))(f:aT L x=.int 3 (.ofNat n):=by exact cw)(g:aT L y=.int 3 (.ofNat k):=by exact cw)(i:n<=k:=by omega)(hb:k*bytes<=70368744177664:=by omega)(j:k<=70368744177664:=by omega):RO ab c (⟨d,.mH e bytes size b x y,none,[],[]⟩::l) s L H:=RO.op (λac a=>by
 have h1:(ai0 n k&&dT (k*bytes)&&dT k)=true:=by simp only[dT,ah4];exact⟨⟨aiB i,aiB hb⟩,aiB j⟩
 simp only[aH,a.gv f rfl,a.gv g rfl,h1,bi]) h
theorem RO.append{e bytes size:Nat}{j:List AV}{x y:aJ}{b f:AV}{n:Nat}{i:List AV}{r:AV×ai}(k:fY H size f=some (n,i))(m:je e bytes size H b n i=some r)(h:RO ab c l s (bq L d r.1) r.2)(o:aT L x=b:=by exact cw)(hs:b.br=true:=by first|rfl|assumption)(p:aT L y=f:=by exact cw)(g:f.br=true:=by first|rfl|assumption):RO ab c (⟨d,.append e bytes size j false x y,none,[],[]⟩::l) s L H:=RO.op (λac a=>by simp only[aH,acg,bF,a.gv o hs,a.gv p g,k,m]) h
theorem RO.nilCheck{x:aJ}{v:AV}(h:RO ab c l s (bq L d v) H)(e:aT L x=v:=by exact cw)(b:(match v with|.aD .. |.func .. |.yield _|.iface .. |.map _|.slice .. =>true|_=>false)=true:=by first|rfl|assumption):RO ab c (⟨d,.nilCheck x,none,[],[]⟩::l) s L H:=RO.op (λac a=>by
 have hd:v.br=true:=by cases v<;>first|rfl|cases b
 simp only[aH,a.gv e hd];cases v<;>first|rfl|cases b) h
theorem RO.mJ{a:Bool}{b:List aJ}{v r:AV}{vs:List AV}(h:RO ab c l s (bq L d r) H)(hx:b.map (aT L)=v::vs:=by rfl)(hd:(v::vs).all AV.br=true:=by first|rfl|assumption)(hr:vM a v vs=some r:=by exact cw):RO ab c (⟨d,.mJ a b,none,[],[]⟩::l) s L H:=RO.op (λac f=>by
 have e:b.map (gv ac)=v::vs:=by rw[<-hx];refine ai7 λx g=>f.gv rfl ?_;rw[<-hx]at hd;exact ai8.1 hd _ (aio g)
 simp[e,hr,aH,aip]) h
def kh(L:Kn)(x:Option aJ)(d y:Nat):Option Nat:=
 match x with
 |some x=>lL (aT L x) y
 |none=>some d
theorem xf{ac:az AV}(a:Le L ac){x:Option aJ}{d y n:Nat}(h:kh L x d y=some n):jq ac x d y=some n:=by cases x with|none=>exact h|some x=>simp only[kh]at h;simp only[jq];rw[a.gv (x:=x) rfl (by cases hg:aT L x<;>rw[hg]at h<;>first|rfl|cases h)];exact h
theorem RO.gW{e size:Nat}{x:aJ}{lo hi g:Option aJ}{i:ah}{o n j:Nat}{ex:Bool}{a b m:Nat}(k:aT L x=.slice i o n j ex)(p:kh L g j j=some m)(hb:kh L hi n m=some b)(q:kh L lo 0 b=some a)(he:(ex||g.isSome||lo.isNone||pN H i e)=true)(h:RO ab c l s (bq L d (.slice i (if ex&&decide (m=a)then o else o+a*size) (b - a) (m - a) (ex||g.isSome))) H):RO ab c (⟨d,.gW e size x lo hi g,none,[],[]⟩::l) s L H:=RO.op (λac f=>by simp only[aH,f.gv k rfl,xf f p,xf f hb,xf f q,afN,ajq,he,bi]) h
theorem RO.zu{e size:Nat}{x:aJ}{lo hi g:Option aJ}{a b m:Nat}(i:aT L x=.bh)(j:kh L g 0 0=some m)(hb:kh L hi 0 m=some b)(k:kh L lo 0 b=some a)(h:RO ab c l s (bq L d .bh) H):RO ab c (⟨d,.gW e size x lo hi g,none,[],[]⟩::l) s L H:=RO.op (λac f=>by simp only[aH,f.gv i rfl,xf f j,xf f hb,xf f k,afN,ajq]) h
theorem RO.ku{k m:Nat}{x:aJ}{a:Int}(h:RO ab c l s (bq L d (.int k (fX k a))) H)(e:aT L x=.int m a:=by exact cw):RO ab c (⟨d,.ku k x,none,[],[]⟩::l) s L H:=RO.op (λac b=>by simp only[aH,b.gv e rfl]) h
theorem RO.copy{size:Nat}{x y:aJ}{i:ah}{o n g:Nat}{ex:Bool}{b:AV}{m:Nat}{f:List AV}{H':ai}(j:aT L x=.slice i o n g ex)(k:aT L y=b)(e:b.br=true)(p:fY H size b=some (m,f))(q:min m n≠0)(r:gF H i o (f.take (min m n*size))=some H')(h:RO ab c l s (bq L d (.int 3 (.ofNat (min m n)))) H'):RO ab c (⟨d,.copy size x y,none,[],[]⟩::l) s L H:=RO.op (λac a=>by simp only[aH,a.gv j rfl,a.gv k e,p,an q,r]) h
theorem RO.Kc{size:Nat}{x y:aJ}{xv b:AV}{m:Nat}{f:List AV}(g:aT L x=xv)(i:aT L y=b)(e:b.br=true)(j:fY H size b=some (m,f))(k:∃n,lenOf xv=some n/\min m n=0)(h:RO ab c l s (bq L d (.int 3 (.ofNat 0))) H):RO ab c (⟨d,.copy size x y,none,[],[]⟩::l) s L H:=RO.op (λac a=>by
 have⟨n,h1,h2⟩:=k;have hd:xv.br=true:=by cases xv<;>first|rfl|cases h1
 simp only[aH,a.gv g hd,a.gv i e,j];cases xv<;>simp only[lenOf,abv,reduceCtorEq]at h1;all_goals grind) h
theorem RO.typeAssert{t u:Nat}{zero:AV}{x:aJ}{v:AV}(b:aT L x=.iface u v)(hu:ah8 u t=true)(h:RO ab c l s (bq L d v) H):RO ab c (⟨d,.typeAssert t zero false x,none,[],[]⟩::l) s L H:=RO.op (λac a=>by simp only[aH,a.gv b rfl,hu,bi,acg,bF]) h
theorem RO.kr{op:BinOp}{x y:aJ}{a b:AV}{v:AV}(h:RO ab c l s (bq L d v) H)(f:aT L x=a:=by exact cw)(g:a.br=true:=by first|rfl|assumption)(i:aT L y=b:=by exact cw)(hb:b.br=true:=by first|rfl|assumption)(j:vL op a b=some v:=by exact cw):RO ab c (⟨d,.kr op x y,none,[],[]⟩::l) s L H:=RO.op (λac e=>by simp only[aH,e.gv f g,e.gv i hb,j,aip]) h
theorem RO.mI{x:aJ}{t:List Nat}(h:RO ab c l s (bq L d (.int 3 (.ofNat t.length))) H)(b:aT L x=.str t:=by exact cw):RO ab c (⟨d,.mI x,none,[],[]⟩::l) s L H:=RO.op (λac a=>by simp only[aH,a.gv b rfl]) h
theorem RO.w8{op:bJ}{g:ah}{w b:Bool}{hd:List ah}{re:List gX}(h:RO ab c l s (bq L d .ajS) H)(hg:aT L (.t g)=.bool b:=by exact cw)(hb:b≠w:=by decide):RO ab c (⟨d,op,some (g,w),hd,re⟩::l) s L H:=λac a=>by have⟨n,f⟩:=h _ (a.set d .ajS);refine⟨n+1,?_⟩;have e:ac.get .ajS g=.bool b:=a.get hg rfl;simp[hb,e,f,Xo,Go.al.aB,dZ,j9,acg,bF,AV.br,bi]
theorem RO.rF{op:bJ}{g:ah}{w:Bool}{hd:List ah}{re:List gX}(h:RO ab c (⟨d,op,none,hd,re⟩::l) s L H)(hg:aT L (.t g)=.bool w:=by exact cw):RO ab c (⟨d,op,some (g,w),hd,re⟩::l) s L H:=λac a=>by have⟨n,b⟩:=h ac a;refine⟨n,?_⟩;have e:ac.get .ajS g=.bool w:=a.get hg rfl;cases n with|zero=>trivial|succ n=>simp_all[Xo,Go.al.aB,dZ,beq_self_eq_true,bi]
end
section
theorem uG{c:az AV}{n:Nat}:∀{l:List AV}{o:Nat},o+l.length<=n->(∀i(h:i<l.length),c.bp .ajS (o+i)=l[i])->fW c n o l.length=some l
 |[],o,_,_=>by rfl
 |z::l,o,h,hg=>by
  simp only[air,fW];have h0:c.bp .ajS o=z:=hg 0 aC;have a:o<n:=by simp at h;omega
  have b:=uG (c:=c) (n:=n) (l:=l) (o:=o+1) (by simp at h;omega) (λi hi=>by have:=hg (i+1) (by simpa using hi);rw[show o+(i+1)=o+1+i by omega]at this;simpa using this);grind
def Sl(H:ai)(size:Nat)(vs:List AV)(n:Nat)(sv:AV):Prop:=
 (sv=.bh/\n=0/\vs=[])\/∃i o cap ex c m e rw aK fz,sv=.slice i o n cap ex/\H.get i=.cells c m e rw aK fz/\o+n*size<=m/\vs.length=n*size/\(∀j(h:j<vs.length),c.bp .ajS (o+j)=vs[j])/\i.am<H.next.am/\n<=cap
variable{H H':ai}{size n e bytes:Nat}{vs ws:List AV}{sv:AV}
theorem Sl.length(h:Sl H size vs n sv):vs.length=n*size:=by rcases h with⟨_,rfl,rfl⟩|⟨_,_,_,_,_,_,_,_,_,_,_,_,_,h,_⟩;all_goals grind
theorem Sl.br(h:Sl H size vs n sv):sv.br=true:=by rcases h with⟨rfl,_⟩|⟨_,_,_,_,_,_,_,_,_,_,rfl,_⟩<;>rfl
theorem Sl.cW(h:Sl H size vs n sv):sv.cW=true:=by rcases h with⟨rfl,_⟩|⟨_,_,_,_,_,_,_,_,_,_,rfl,_⟩<;>rfl
theorem Sl.cells(h:Sl H size vs n sv):sv.cells=[sv]:=by rcases h with⟨rfl,_⟩|⟨_,_,_,_,_,_,_,_,_,_,rfl,_⟩<;>rfl
theorem Sl.len(h:Sl H size vs n sv):lenOf sv=some n:=by rcases h with⟨rfl,rfl,_⟩|⟨_,_,_,_,_,_,_,_,_,_,rfl,_⟩<;>rfl
theorem Sl.fY(h:Sl H size vs n sv):fY H size sv=some (n,vs):=by rcases h with⟨rfl,rfl,rfl⟩|⟨i,o,cap,ex,c,m,e,a,aK,fz,rfl,hg,b,hl,d,_⟩;all_goals grind[uG,Go.al.fY,dE]
theorem Sl.frame(h:Sl H size vs n sv)(g:H.next.am<=H'.next.am)(k:∀j:ah,j.am<H.next.am->H'.get j=H.get j):Sl H' size vs n sv:=by
 rcases h with h|⟨i,o,cap,ex,c,m,e,b,aK,fz,h1,hg,d,hl,f,hi,a⟩;·exact .inl h
 exact .inr ⟨i,o,cap,ex,c,m,e,b,aK,fz,h1,by grind,d,hl,f,aa,a⟩
theorem Sl.at(h:Sl H size vs n sv)(g:0<n):∃i o cap ex,sv=.slice i o n cap ex/\n<=cap/\i.am<H.next.am/\(∀j(hj:j<vs.length),aY H i (o+j)=some vs[j])/\∀j k,(j+k)<=vs.length->dE H i (o+j) k=some ((vs.drop j).take k):=by
 rcases h with⟨_,rfl,_⟩|⟨i,o,cap,ex,c,m,e,d,aK,fz,h1,hg,l,hl,b,hi,a⟩;·omega
 refine⟨i,o,cap,ex,h1,a,hi,λj hj=>?_,λj k f=>?_⟩;·have hb:aiu (o+j) m=true:=ajP aiV aa;simp[hg,hb,b,hj,aY,bi]
 grind[uG,List.length_take,List.length_drop,Nat.add_assoc,Nat.min_eq_left,dE]
def cP(H:ai)(fp:List ah)(e size:Nat)(vs:List AV)(n:Nat)(full:Bool)(sv:AV):Prop:=
 (fp=[]/\vs=[]/\n=0/\sv=.bh)\/
 ∃i c aK cap ex,fp=i::aK/\sv=.slice i 0 n cap ex/\H.get i=.cells c (cap*size) e true aK 0/\n<=cap/\vs.length=n*size/\(∀j(h:j<vs.length),c.bp .ajS j=vs[j])/\(∀p∈fp,p.am<H.next.am)/\(full=true->ex=true\/n=cap)
variable{fp:List ah}{full:Bool}
theorem cP.sl(h:cP H fp e size vs n full sv):Sl H size vs n sv:=by
 rcases h with⟨_,rfl,rfl,rfl⟩|⟨i,c,aK,cap,ex,rfl,rfl,hg,a,hl,d,b,_⟩;·exact .inl ⟨rfl,rfl,rfl⟩
 refine .inr ⟨i,0,cap,ex,c,_,e,true,aK,0,rfl,hg,?_,hl,λj hj=>by grind,b i (acI ..),a⟩;simp[a,aif,aix]
theorem cP.frame(h:cP H fp e size vs n full sv)(f:H.next.am<=H'.next.am)(l:∀j∈fp,H'.get j=H.get j):cP H' fp e size vs n full sv:=by
 rcases h with h|⟨i,c,aK,cap,ex,rfl,rfl,hg,b,hl,g,k,a⟩;·exact .inl h
 exact .inr ⟨i,c,aK,cap,ex,rfl,rfl,by grind,b,hl,g,λp d=>aim (k p d) f,a⟩
structure aS(H H':ai):Prop where
 nx:H.next.am<=H'.next.am
 cM:∀j:ah,j.am<H.next.am->H'.get j=H.get j
theorem aS.refl(H:ai):aS H H:=⟨afM _,λ_ _=>rfl⟩
theorem aS.trans{A B C:ai}(h:aS A B)(k:aS B C):aS A C:=⟨aji h.nx k.nx,λj hj=>(k.cM j (aim hj h.nx)).trans (h.cM j hj)⟩
theorem ai.lr(H:ai)(o:bP):(H.new o).next.am=H.next.am+1:=ah.eX _
theorem aS.new(H:ai)(o:bP):aS H (H.new o):=⟨by rw[ai.lr];omega,λj hj=>by rw[ai.cO,an (bT aa)]⟩
theorem aS.sl(h:aS H H')(k:Sl H size vs n sv):Sl H' size vs n sv:=k.frame h.nx h.cM
theorem aS.aY(h:aS H H'){i:ah}(hi:i.am<H.next.am)(o:Nat):aY H' i o=Go.al.aY H i o:=mX (h.cM i hi) o
theorem cP.below(h:cP H fp e size vs n full sv):∀j∈fp,j.am<H.next.am:=by rcases h with⟨rfl,_⟩|⟨_,_,_,_,_,_,_,_,_,_,_,a,_⟩;all_goals grind
theorem zw:∀{l:List AV},cU l=true↔∀v∈l,v.cW=true|[]=>by trivial|a::l=>by simp[cU,zw (l:=l)]
theorem sW{n:Nat}(h:n<=70368744177664):dT n=true:=aiB h
theorem xg{l:List AV}{j:Nat}(h:j<l.length):(cq l).bp .ajS j=l[j]:=by simp[h,nN,ah3]
theorem cP.new{vs:List AV}(b:vs.length=n*size)(ex full:Bool):cP (H.new (.cells (cq vs) (n*size) e true [] 0)) [H.next] e size vs n full (.slice H.next 0 n n ex):=.inr ⟨H.next,cq vs,[],n,ex,rfl,rfl,by rw[ai.cO,aG rfl],afM _,b,λj hj=>xg hj,λp a=>by rw[abP]at a;subst a;rw[ai.lr];omega,λ_=>.inr rfl⟩
theorem cP.append(h:cP H fp e size vs n true sv){k:Nat}(r:ws.length=k*size)(h1:cU ws=true)(hb:(n+k)*bytes<=70368744177664)(hs:n+k<=70368744177664):∃t H' fp',je e bytes size H sv k ws=some (t,H')/\cP H' fp' e size (vs++ws) (n+k) true t/\H.next.am<=H'.next.am/\(∀j∈fp',j∈fp\/(H.next.am<=j.am/\j.am<H'.next.am))/\∀j:ah,j∉fp->j.am<H.next.am->H'.get j=H.get j:=by
 rcases h with⟨rfl,rfl,rfl,rfl⟩|⟨i,c,aK,cap,ex,rfl,rfl,hg,g,hl,w,v,a⟩
 .by_cases s:k=0;·subst s;have l:ws=[]:=aih aa;subst l;refine⟨.bh,H,[],by simp[je,cU],.inl ⟨rfl,rfl,rfl,rfl⟩,afM _,λj hj=>(by cases hj),λ_ _ _=>rfl⟩
  have m:ah8 k 0=false:=by cases h:ah8 k 0 with|false=>rfl|true=>exact absurd (ah5 h) s
  refine⟨.slice H.next 0 k k false,H.new (.cells (cq ws) (k*size) e true [] 0),[H.next],?_,?_,?_,?_,?_⟩;·rw[aif]at hb hs;simp only[je,h1,ait,acg,bF,m,sW hb,sW hs,ajL,bi]
  .rw[aif];exact cP.new r false true
  .exact(aS.new H _).nx
  .intro j hj;rw[abP]at hj;subst hj;right;rw[ai.lr];omega
  intro j _ hj;exact(aS.new H _).cM j hj
 by_cases b:n+k<=cap
 .have d:ai0 (n+k) cap=true:=aiB b;by_cases s:k=0
  .subst s;have l:ws=[]:=aih aa;subst l;refine⟨.slice i 0 (n+0) cap ex,H,i::aK,?_,?_,afM _,λj hj=>.inl hj,λ_ _ _=>rfl⟩;·simp only[je,h1,ait,acg,bF,d,bi,aje]
   exact .inr ⟨i,c,aK,cap,ex,rfl,rfl,hg,g,by simpa using hl,by simpa using w,v,a⟩
  have m:ah8 k 0=false:=by cases h:ah8 k 0 with|false=>rfl|true=>exact absurd (ah5 h) s
  have z:n*size+ws.length<=cap*size:=by rw[r,<-ajA];exact aix _ b
  have x:gF H i (0+n*size) ws=some ((H.eG aK).set i (.cells (ez c (0+n*size) ws) (cap*size) e true [] 0)):=by
   have hd:(decide (0<=0+n*size)&&decide (0+n*size+ws.length<=cap*size)&&cU ws)=true:=by simp only[ah4,decide_eq_true_eq,h1,and_true];omega
   simp only[gF,hg,hd,bi]
  refine⟨.slice i 0 (n+k) cap ex,(H.eG aK).set i (.cells (ez c (0+n*size) ws) (cap*size) e true [] 0),[i],by simp only[je,h1,ait,acg,bF,d,bi,m,x],?_,?_,?_,?_⟩
  .refine .inr ⟨i,ez c (0+n*size) ws,[],cap,ex,rfl,rfl,by rw[ai.aF,aG rfl],b,by rw[ahY,hl,r,ajA],λj hj=>?_,λp f=>?_,λA=>?_⟩
   .rw[li];rw[ahY]at hj;by_cases o:j<vs.length;·rw[an aa,w j o,List.getElem_append_left o]
    rw[aG aa,List.getElem_append_right aa];have:j - (0+n*size)<ws.length:=aa;simp only[ah3,this,getElem?_pos,aiX];congr 1;omega
   .rw[abP]at f;subst f;rw[ai.eH,ai.iK];exact v _ (acI ..)
   rcases a A with h|h;·exact .inl h
   right;omega
  .rw[ai.eH,ai.iK];exact afM _
  .intro j hj;rw[abP]at hj;subst hj;exact .inl (acI ..)
  intro j hj _;rw[ai.aF,an λe:j=i=>hj (by rw[e];exact acI ..),ai.ud,an λe=>hj (adT _ e)]
 have d:ai0 (n+k) cap=false:=by cases h:ai0 (n+k) cap with|false=>rfl|true=>exact absurd (aib h) b
 have hrd:fW c (cap*size) 0 (n*size)=some vs:=by have:=uG (c:=c) (n:=cap*size) (l:=vs) (o:=0) (by rw[aif,hl];exact aix _ g) (λj hj=>by rw[aif];exact w j hj);rw[hl]at this;exact this
 have u:(!(dT ((n+k)*bytes)&&dT (n+k)))=false:=by rw[sW hb,sW hs];rfl
 cases ex with
 |true=>
  refine⟨.slice H.next 0 (n+k) (n+k) false,H.new (.cells (cq (vs++ws)) ((n+k)*size) e true [] 0),[H.next],by simp only[je,h1,ait,acg,bF,d,u,hg,hrd,bi],?_,(aS.new H _).nx,?_,λj _ hj=>(aS.new H _).cM j hj⟩;·exact cP.new (by rw[ahY,hl,r,ajA]) false true
  intro j hj;rw[abP]at hj;subst hj;right;rw[ai.lr];omega
 |false=>
  have y:n=cap:=by rcases a rfl with h|h;cases h;exact h
  subst y;have q:(true&&ah8 n n&&ah8 (0+n*size) (n*size)&&ah8 e e&&ai0 0 (n*size))=true:=by simp[aje]
  have B:i.am<H.next.am:=v i (acI ..);refine⟨.slice H.next 0 (n+k) (n+k) false,(H.set i (.cells c (n*size) e false aK 0)).new (.cells (cq (vs++ws)) ((n+k)*size) e true (i::aK) 0),H.next::i::aK,by simp only[je,h1,ait,acg,bF,d,u,hg,hrd,q,bi],?_,?_,?_,?_⟩
  .refine .inr ⟨H.next,cq (vs++ws),i::aK,n+k,false,rfl,rfl,by rw[ai.cO,ai.eH,aG rfl],afM _,by rw[ahY,hl,r,ajA],λj hj=>xg hj,λp f=>?_,λ_=>.inr rfl⟩;rw[ai.lr,ai.eH];rcases acT.1 f with e|e;·subst e;omega
   have:=v p e;omega
  .rw[ai.lr,ai.eH];omega
  .intro j hj;rcases acT.1 hj with e|e;·subst e;right;rw[ai.lr,ai.eH];omega
   exact .inl e
  intro j hj o;rw[ai.cO,ai.eH,an (bT aa),ai.aF,an λe:j=i=>hj (by rw[e];exact acI ..)]
theorem RO.TP{ab:Nat->aV}{c:Cx}{s:List SI}{L:Kn}{d:Option ah}{l:List bD}{g:List AV}{x y:aJ}{b:AV}{k:Nat}(f:cP H fp e size vs n true sv)(hs:Sl H size ws k b)(h1:cU ws=true)(h:∀a H' fp',cP H' fp' e size (vs++ws) (n+k) true a->H.next.am<=H'.next.am->(∀j∈fp',j∈fp\/(H.next.am<=j.am/\j.am<H'.next.am))->(∀j:ah,j∉fp->j.am<H.next.am->H'.get j=H.get j)->RO ab c l s (bq L d a) H')(i:aT L x=sv:=by exact cw)(m:aT L y=b:=by exact cw)(hb:(n+k)*bytes<=70368744177664:=by omega)(o:n+k<=70368744177664:=by omega):RO ab c (⟨d,.append e bytes size g false x y,none,[],[]⟩::l) s L H:=by have⟨a,H',fp',h2,h3,p,q,r⟩:=f.append (bytes:=bytes) hs.length h1 hb o;exact RO.append hs.fY h2 (h a H' fp' h3 p q r) i f.sl.br m hs.br
end
section
variable{ab:Nat->aV}{c:Cx}{s:List SI}{L:Kn}{H:ai}{d:Option ah}{l:List bD}
abbrev aI(z:Int):AV:=.int 3 z
abbrev aN(n:Nat):AV:=.int 3 (.ofNat n)
theorem m9(l:List Int):cU (l.map aI)=true:=zw.2 λv a=>by obtain⟨z,_,rfl⟩:=aia.1 a;rfl
abbrev eE(H:ai)(l:List Int)(a:AV):Prop:=Sl H 1 (l.map aI) l.length a
theorem RO.TQ{a:List Int}{b:AV}{x y:aJ}{j k:Nat}(hs:eE H a b)(h:∀i o z,a[j]?=some z->aY H i o=some (aI z)->i.am<H.next.am->RO ab c l s (bq L d (.aD i o)) H)(f:aT L x=b:=by exact cw)(g:aT L y=.int k (.ofNat j):=by exact cw)(hj:j<a.length:=by omega):RO ab c (⟨d,.dI 1 x y,none,[],[]⟩::l) s L H:=by obtain⟨i,o,m,e,rfl,h1,h2,h3,n⟩:=hs.at aa;refine RO.dI (h i (o+j*1) a[j] (getElem?_pos a j hj) ?_ h2) f g hj;grind
theorem RO.BG{op:bJ}{hd:List ah}{re:List gX}{v:AV}{H':ai}(g:∀f a,op≠.call f a)(e:∀a,op≠.j6 a)(he:∀ac,Le L ac->∃H1,aH op ac (dF ac H hd).1=some (v,H1)/\di H1 (dF ac H hd).2=H')(i:∀ac,Le (bq L d v) ac->dX ac H' re=true)(h:RO ab c l s (bq L d v) H'):RO ab c (⟨d,op,none,hd,re⟩::l) s L H:=λac b=>by have⟨n,j⟩:=h _ (b.set d v);have⟨H1,h1,h2⟩:=he ac b;have h3:=i _ (b.set d v);refine⟨n+1,?_⟩;cases op<;>first|exact absurd rfl (g _ _)|exact absurd rfl (e _)|(simp only[Xo,Go.al.aB,dZ,bi,h1,h2,h3];exact j)
theorem RO.EW{d:Option ah}{f:aJ}{args:List aJ}{l:List bD}{re:List gX}{fv:AV}{b:List AV}(h:YF ab fv b H λv H'=>(∀ac,Le (bq L d v) ac->dX ac H' re=true)/\RO ab c l s (bq L d v) H')(o:aT L f=fv:=by exact cw)(g:fv.br=true:=by first|rfl|assumption)(p:args.map (aT L)=b:=by rfl)(i:b.all AV.br=true:=by first|rfl|assumption):RO ab c (⟨d,.call f args,none,[],re⟩::l) s L H:=λac a=>by
 have⟨n,q⟩:=h;have j:args.map (gv ac)=b:=by subst p;exact ai7 λx r=>a.gv rfl (ai8.1 i _ (aio r))
 obtain⟨m,e⟩:=(w7 ab n).call (K:=λm v H'=>dX (aO ac d v) H' re=true/\Xo ab m l ⟨aO ac d v,c.M,c.R⟩ H' (iN ab c.K s .none)) (λm t v H e h=>⟨h.1,h.2.mono e λ_ _ h=>h⟩) ((mono ab n).call (afM _) (λv H' k=>by have⟨m,e⟩:=k.2 _ (a.set d v);exact⟨m,k.1 _ (a.set d v),e⟩) q);refine⟨max n m+1,?_⟩;simp only[Xo,Go.al.aB,dZ,dF,di,bi];rw[a.gv o g,j];refine(show Xf ab n fv b H _ from e).mono (Nat.le_max_left ..) λv H' h=>?_;rw[aG h.1];exact(show Xo ab m l _ H' _ from h.2).mono (Nat.le_max_right ..) λ_ _ h=>h
end
section
variable{A B C H H':ai}{size n e bytes cap:Nat}{vs ws:List AV}{sv:AV}{fp fp' f a b c:List ah}{full ex:Bool}{i:ah}
structure lQ(fp fp':List ah)(H H':ai):Prop where
 nx:H.next.am<=H'.next.am
 hd:∀j∈fp',j∈fp\/H.next.am<=j.am
 cM:∀j:ah,j∉fp->j.am<H.next.am->H'.get j=H.get j
def qj(A:ai)(fp:List ah):Prop:=∀j∈fp,A.next.am<=j.am
theorem lQ.bR(h:lQ fp fp' H H')(hg:aS A H)(a:qj A fp):aS A H':=⟨aji hg.nx h.nx,λj hj=>by rw[h.cM j (λe=>by have:=a j e;omega) (aim hj hg.nx)];exact hg.cM j hj⟩
theorem lQ.EX(h:lQ fp fp' H H')(hg:aS A H)(a:qj A fp):qj A fp':=λj hj=>by
 rcases h.hd j hj with e|e;·exact a j e
 have:=hg.nx;omega
theorem lQ.refl(fp:List ah)(H:ai):lQ fp fp H H:=⟨afM _,λ_ hj=>.inl hj,λ_ _ _=>rfl⟩
theorem cP.sX(h:cP H fp e size vs n full (.slice i 0 n cap ex)){o:Nat}{us:List AV}(v:o+ws.length<=cap*size)(h1:cU ws=true)(hl:us.length=vs.length)(hu:∀j,j<vs.length->us[j]?=if o<=j/\j<o+ws.length then ws[j - o]? else vs[j]?):∃H',gF H i o ws=some H'/\lQ fp [i] H H'/\cP H' [i] e size us n full (.slice i 0 n cap ex):=by
 rcases h with⟨_,_,_,h⟩|⟨w,c,aK,q,u,rfl,h2,hg,l,m,r,s,d⟩;·cases h
 injection h2 with h2 _ _ h3 t;subst h2;subst h3;subst t;have hd:(decide (0<=o)&&decide (o+ws.length<=cap*size)&&cU ws)=true:=by simp only[ah4,decide_eq_true_eq,h1,and_true];omega
 refine⟨(H.eG aK).set i (.cells (ez c o ws) (cap*size) e true [] 0),by simp only[gF,hg,hd,bi],⟨Nat.le_of_eq (by rw[ai.eH,ai.iK]),λj hj=>?_,λj hj x=>?_⟩,?_⟩;·rw[abP]at hj;subst hj;exact .inl (acI ..)
 .rw[ai.aF,an λe:j=i=>hj (by rw[e];exact acI ..),ai.ud,an λe=>hj (adT _ e)]
 refine .inr ⟨i,ez c o ws,[],cap,ex,rfl,rfl,by rw[ai.aF,aG rfl],l,hl.trans m,λj hj=>?_,λp k=>?_,d⟩
 .have a:j<vs.length:=aa;have:=hu j a;rw[getElem?_pos us j hj]at this;rw[li];split;·rename_i b;rw[aG b,getElem?_pos ws _ aa]at this;injection this with this;simp only[ah3];rw[getElem?_pos ws _ aa];simp[this]
  rename_i b;rw[an b,getElem?_pos vs _ a]at this;injection this with this;rw[r j a,this]
 rw[abP]at k;subst k;rw[ai.eH,ai.iK];exact s _ (acI ..)
theorem cP.mem(h:cP H fp e size vs n full (.slice i 0 n cap ex)):i∈fp/\n<=cap/\i.am<H.next.am:=by rcases h with⟨_,_,_,h⟩|⟨l,c,aK,b,j,rfl,h2,hg,d,k,m,o,a⟩;all_goals grind
theorem cP.jO(h:cP H fp e size vs n full sv)(l:n≠0):∃i cap ex,sv=.slice i 0 n cap ex:=by rcases h with⟨_,_,h,_⟩|⟨m,c,aK,b,j,rfl,h2,hg,d,k,o,p,a⟩;all_goals grind
variable{l:List (Int×Int)}
variable{ab:Nat->aV}{g:Cx}{s:List SI}{L:Kn}{d:Option ah}{aB:List bD}
end
section
variable{ab:Nat->aV}{c:Cx}{s:List SI}{L:Kn}{H H' A:ai}{d:Option ah}{l:List bD}{size n e:Nat}{vs ws:List AV}{sv:AV}{fp fp':List ah}
theorem RO.bW{q:ah}{p:Prop} [Decidable p](h1:p->RO ab c l s ((q,.bool true)::L) H)(h2:¬p->RO ab c l s ((q,.bool false)::L) H):RO ab c l s ((q,.bool (decide p))::L) H:=by by_cases a:p;all_goals grind
theorem RO.pj{q:ah}{t:Bool}(h1:t=true->RO ab c l s ((q,.bool true)::L) H)(h2:t=false->RO ab c l s ((q,.bool false)::L) H):RO ab c l s ((q,.bool t)::L) H:=by cases t with|true=>grind|false=>grind
theorem qk{k b y:Nat}(h:b<=y):lL (.int k (.ofNat b)) y=some b:=by simp[h,lL,aiB,bi]
theorem RO.Kd{x y:aJ}{b k:Nat}(hs:Sl H size vs n sv)(h:∀a,Sl H size (vs.take (b*size)) b a->RO ab c l s (bq L d a) H)(g:aT L x=sv:=by exact cw)(p:aT L y=.int k (.ofNat b):=by exact cw)(hb:b<=n:=by omega):RO ab c (⟨d,.gW e size x none (some y) none,none,[],[]⟩::l) s L H:=by
 rcases hs with⟨rfl,rfl,rfl⟩|⟨i,o,cap,ex,r,m,t,f,aK,fz,rfl,hg,v,hl,u,hi,q⟩;·have:b=0:=aa;subst this;refine RO.zu (m:=0) (b:=0) (a:=0) g rfl ?_ rfl (h _ (.inl ⟨rfl,rfl,aC⟩));simp only[kh,p];rfl
 refine RO.gW (m:=cap) (b:=b) (a:=0) g rfl ?_ rfl aC ?_;·simp only[kh,p];exact qk aa
 have e1:(if ex&&decide (cap=0)then o else o+0*size)=o:=by split<;>omega
 rw[e1,ajF,ajF];have bG:b*size<=n*size:=aix _ hb;refine h _ (.inr ⟨i,o,cap,_,r,m,t,f,aK,fz,rfl,hg,aa,?_,λj hj=>?_,hi,aa⟩);·rw[aiA];omega
 rw[aiA]at hj;rw[u j aa];simp
variable{q:ah}{v w:AV}
theorem RO.TR{f:List AV}(h:∀H' a fp',cP H' fp' e size [] 0 true a->aS H H'->qj H fp'->RO ab c l s (bq L d a) H'):RO ab c (⟨d,.buildSlice e 0 f [],none,[],[]⟩::l) s L H:=by refine RO.buildSlice (vs:=[]) ?_ rfl rfl;have b:cP (H.new (.cells (cq []) (0*size) e true [] 0)) [H.next] e size [] 0 true (.slice H.next 0 0 0 true):=cP.new (vs:=[]) aC true true;rw[Nat.zero_mul]at b;exact h _ _ _ b (aS.new H _) (λj hj=>by grind)
theorem RO.TS{x y:aJ}{b:AV}{k bytes:Nat}{f:List AV}(g:cP H fp e size vs n true sv)(hs:Sl H size ws k b)(h1:cU ws=true)(h:∀a H' fp',cP H' fp' e size (vs++ws) (n+k) true a->lQ fp fp' H H'->RO ab c l s (bq L d a) H')(i:aT L x=sv:=by exact cw)(m:aT L y=b:=by exact cw)(hb:(n+k)*bytes<=70368744177664:=by omega)(o:n+k<=70368744177664:=by omega):RO ab c (⟨d,.append e bytes size f false x y,none,[],[]⟩::l) s L H:=RO.TP g hs h1 (λa H' fp' h2 h3 p q=>h a H' fp' h2 ⟨h3,λj hj=>(p j hj).imp id λh=>h.1,q⟩) i m hb o
theorem RO.EY{e size:Nat}{x:aJ}{lo hi f:Option aJ}{i:ah}{o n g:Nat}{ex:Bool}{a b m:Nat}{v:AV}(j:aT L x=.slice i o n g ex)(k:kh L f g g=some m)(hb:kh L hi n m=some b)(p:kh L lo 0 b=some a)(he:(ex||f.isSome||lo.isNone||pN H i e)=true)(q:AV.slice i (if ex&&decide (m=a)then o else o+a*size) (b - a) (m - a) (ex||f.isSome)=v)(h:RO ab c l s (bq L d v) H):RO ab c (⟨d,.gW e size x lo hi f,none,[],[]⟩::l) s L H:=by grind[RO.gW]
end
section
variable{ab:Nat->aV}{c:Cx}{s:List SI}{L:Kn}{H H' A:ai}{d:Option ah}{l:List bD}{size n e k cap bytes:Nat}{vs ws:List AV}{sv:AV}{fp fp':List ah}{full ex:Bool}{i:ah}
end
section
variable{ab:Nat->aV}{c:Cx}{s:List SI}{L:Kn}{H:ai}{d:Option ah}{l:List bD}
theorem RO.zr{x a b:aJ}{v:AV}(h:RO ab c l s (bq L d v) H)(f:aT L x=.bool true:=by exact cw)(g:aT L a=v:=by exact cw)(i:v.br=true:=by first|rfl|assumption):RO ab c (⟨d,.pick x a b,none,[],[]⟩::l) s L H:=RO.op (λac e=>by simp only[aH,e.gv f rfl,e.gv g i,bi]) h
theorem RO.zt{x a b:aJ}{v:AV}(h:RO ab c l s (bq L d v) H)(f:aT L x=.bool false:=by exact cw)(hb:aT L b=v:=by exact cw)(g:v.br=true:=by first|rfl|assumption):RO ab c (⟨d,.pick x a b,none,[],[]⟩::l) s L H:=RO.op (λac e=>by simp only[aH,e.gv f rfl,e.gv hb g,acg,bF]) h
theorem RO.BE{op:bJ}{g:ah}{w:Bool}{hd:List ah}{re:List gX}(h:RO ab c l s (bq L d .ajS) H)(hg:aT L (.t g)=.tuple []:=by exact cw):RO ab c (⟨d,op,some (g,w),hd,re⟩::l) s L H:=λac a=>by have⟨n,b⟩:=h _ (a.set d .ajS);refine⟨n+1,?_⟩;have e:ac.get .ajS g=.tuple []:=a.get hg rfl;simp[e,b,Xo,Go.al.aB,dZ,j9,acg,bF,AV.br,bi]
theorem ad{v:AV}{l:List AV}(h:v.br=true)(h2:l.all AV.br=true):(v::l).all AV.br=true:=by grind
theorem RO.cl{f:aJ}{args:List aJ}{fv:AV}{av:List AV}(h:YF ab fv av H λv H'=>RO ab c l s (bq L d v) H')(e:aT L f=fv:=by exact cw)(a:fv.br=true:=by first|rfl|assumption)(ha:args.map (aT L)=av:=by rfl)(b:av.all AV.br=true:=by repeat first|rfl|assumption|(refine ad ?_ ?_)):RO ab c (⟨d,.call f args,none,[],[]⟩::l) s L H:=RO.call h e a ha b
theorem mg{k:Nat}(h:1<=k)(a:k<1000000):fG .sub 3 (.ofNat k) (.ofNat 1)=some (.int 3 (.ofNat (k - 1))):=by grind[fG,m8]
theorem bf{a:Type}{l:List a}{k:Nat}(h:k<l.length)(d:a):l.getD k d=l[k]:=by grind
theorem YF.lL{f:Nat}{fs as_ cs:List AV}{K:KT}(h:YF ab (.func f fs cs) as_ H K):YF ab (.func f [] cs) (fs++as_) H K:=by have⟨n,h⟩:=h;refine⟨n,?_⟩;cases n with|zero=>trivial|succ n=>trivial
end
section
structure Th where
 P:ai->List ah->Prop
 fr:∀{H H':ai}{fp:List ah},P H fp->H.next.am<=H'.next.am->(∀j∈fp,H'.get j=H.get j)->P H' fp
 lt:∀{H:ai}{fp:List ah},P H fp->∀j∈fp,j.am<H.next.am
def Fs(A H:ai):List (List ah)->List Th->Prop
 |[],[]=>True
 |fp::fs,t::ts=>t.P H fp/\qj A fp/\(∀j∈fp,∀f∈fs,j∉f)/\Fs A H fs ts
 |_,_=>False
def ak(A H:ai)(ts:List Th):Prop:=aS A H/\∃fs,Fs A H fs ts
variable{A B H H' c:ai}{fs:List (List ah)}{ts us:List Th}{t t':Th}{fp fp':List ah}
theorem Fs.lt:∀{fs:List (List ah)}{ts:List Th},Fs A H fs ts->∀f∈fs,∀j∈f,j.am<H.next.am
 |[],[],_,f,a=>by grind
 |fp::fs,t::ts,⟨h1,_,_,b⟩,f,a=>by
  rcases acT.1 a with rfl|a;·exact t.lt h1
  exact Fs.lt b f a
 |[],_::_,h,_,_=>h.elim
 |_::_,[],h,_,_=>h.elim
theorem Fs.ge:∀{fs:List (List ah)}{ts:List Th},Fs A H fs ts->∀f∈fs,qj A f
 |[],[],_,f,a=>by grind
 |fp::fs,t::ts,⟨_,h2,_,b⟩,f,a=>by
  rcases acT.1 a with rfl|a;·omega
  exact Fs.ge b f a
 |[],_::_,h,_,_=>h.elim
 |_::_,[],h,_,_=>h.elim
theorem Fs.qi(a:H.next.am<=H'.next.am):∀{fs:List (List ah)}{ts:List Th},Fs A H fs ts->(∀f∈fs,∀j∈f,H'.get j=H.get j)->Fs A H' fs ts|[],[],_,_=>trivial|_::_,t::_,⟨h1,h2,h3,b⟩,hg=>⟨t.fr h1 a (hg _ (acI ..)),h2,h3,Fs.qi a b λf d=>hg f (adT _ d)⟩|[],_::_,h,_=>h.elim|_::_,[],h,_=>h.elim
theorem Fs.iO(hg:aS A H)(hu:lQ fp fp' H H'):∀{fs:List (List ah)}{ts:List Th}{i:Nat},Fs A H fs ts->ts[i]?=some t->fs[i]?=some fp->t'.P H' fp'->∃b,Fs A H' b (ts.set i t')/\∀f∈b,f=fp'\/f∈fs
 |[],[],i,_,h,_,_=>by grind
 |[],_::_,_,h,_,_,_=>h.elim
 |_::_,[],_,h,_,_,_=>h.elim
 |l::fs,t0::ts,0,⟨h1,h2,h3,d⟩,k,a,m=>by
  simp only[List.getElem?_cons_zero,abv]at k a;subst a;refine⟨fp'::fs,⟨m,hu.EX hg h2,λj hj f a e=>?_,Fs.qi hu.nx d λf a j hj=>hu.cM j (λe=>h3 j e f a hj) (Fs.lt d f a j hj)⟩,λf a=>(acT.1 a).imp id λh=>adT _ h⟩;rcases hu.hd j hj with h|h;·grind
  have:=Fs.lt d f a j e;omega
 |l::fs,t0::ts,i+1,⟨h1,h2,h3,d⟩,k,a,m=>by
  simp only[ai5]at k a;have o:=List.mem_of_getElem? a;have n:=t0.lt h1;have g:∀j∈l,j∉fp:=λj hj=>h3 j hj fp o;have⟨b,p,q⟩:=Fs.iO hg hu d k a m;refine⟨l::b,⟨t0.fr h1 hu.nx λj hj=>hu.cM j (g j hj) (n j hj),h2,λj hj f a e=>?_,p⟩,λf a=>?_⟩
  .rcases q f a with rfl|h;·rcases hu.hd j e with h|h;all_goals grind
   grind
  grind
theorem Fs.at:∀{fs:List (List ah)}{ts:List Th}{i:Nat},Fs A H fs ts->ts[i]?=some t->∃fp,fs[i]?=some fp/\t.P H fp|[],[],i,_,h=>by grind|[],_::_,_,h,_=>h.elim|_::_,[],_,h,_=>h.elim|b::fs,t0::ts,0,⟨h1,_,_,_⟩,a=>by grind|b::fs,t0::ts,i+1,⟨_,_,_,d⟩,a=>by have⟨fp,e,h⟩:=Fs.at d a;grind
theorem ak.iO(U:ak A H ts)(i:Nat)(hi:ts[i]?=some t):∃fp,t.P H fp/\qj A fp/\∀{H':ai}{fp':List ah}{t':Th},lQ fp fp' H H'->t'.P H' fp'->ak A H' (ts.set i t'):=by have⟨hg,fs,a⟩:=U;have⟨fp,e,h⟩:=a.at hi;refine⟨fp,h,a.ge fp (List.mem_of_getElem? e),λhu b=>⟨hu.bR hg (a.ge fp (List.mem_of_getElem? e)),?_⟩⟩;have⟨d,h1,_⟩:=a.iO hg hu hi e b;grind
theorem ak.gr(U:ak A H ts):aS A H:=U.1
theorem ak.nil(hg:aS A H):ak A H []:=⟨hg,[],trivial⟩
theorem ak.push(U:ak A H ts)(hg:aS H H')(h:t.P H' fp)(d:qj H fp):ak A H' (t::ts):=by have⟨g,fs,a⟩:=U;refine⟨g.trans hg,fp::fs,h,λj hj=>aji g.nx (d j hj),λj hj f b e=>?_,Fs.qi hg.nx a λf b j hj=>hg.cM j (a.lt f b j hj)⟩;have:=a.lt f b j e;have:=d j hj;omega
theorem ak.bR(U:ak A H ts)(hg:aS H H'):ak A H' ts:=by have⟨b,fs,a⟩:=U;exact⟨b.trans hg,fs,Fs.qi hg.nx a λf d j hj=>hg.cM j (a.lt f d j hj)⟩
theorem ak.tail(U:ak A H (t::ts)):ak A H ts:=by have⟨a,fs,b⟩:=U;cases fs with|nil=>trivial|cons f fs=>exact⟨a,fs,b.2.2.2⟩
theorem ak.dq(U:ak A H ts):∀{us:List Th},ak H H' us->ak A H' (us++ts)
 |us,o=>by
  have⟨hg,fs,p⟩:=o;have h0:=U.bR hg;induction us generalizing fs with
  |nil=>grind
  |cons t us i=>
   cases fs with
   |nil=>trivial
   |cons f fs=>
    have⟨h1,h2,h3,d⟩:=p;have⟨l,m,a⟩:=U;have key:∀{us:List Th}{fs:List (List ah)},Fs H H' fs us->∃ks,Fs A H' ks (us++ts)/\∀k∈ks,k∈fs\/k∈m:=by
     intro us;induction us with
     |nil=>intro fs _;exact⟨m,Fs.qi hg.nx a λf q j hj=>hg.cM j (a.lt f q j hj),λk b=>.inr b⟩
     |cons t us i=>
      intro fs h;cases fs with
      |nil=>exact h.elim
      |cons f fs=>
       have⟨h1,h2,h3,d⟩:=h;have⟨ks,g,n⟩:=i d;refine⟨f::ks,⟨h1,λj hj=>aji l.nx (h2 j hj),λj hj k b e=>?_,g⟩,λk b=>?_⟩
       .rcases n k b with h|h;·exact h3 j hj k h e
        have:=a.lt k h j e;have:=h2 j hj;omega
       rcases acT.1 b with rfl|h;·exact .inl (acI ..)
       exact(n k h).imp (adT _) id
    have⟨ks,g,_⟩:=key (us:=t::us) (fs:=f::fs) ⟨h1,h2,h3,d⟩;exact⟨l.trans hg,ks,g⟩
theorem ak.bK(U:ak A H ts)(a:H'.next=H.next)(hg:∀j,H'.get j=H.get j):ak A H' ts:=U.bR ⟨by grind,λj _=>hg j⟩
theorem ak.bN(H:ai):ak H H []:=ak.nil (aS.refl H)
theorem Fs.Ke:∀{fs:List (List ah)}{ts:List Th}{i:Nat},Fs A H fs ts->ts[i]?=some t->∃fp a,t.P H fp/\qj A fp/\Fs A H a (ts.eraseIdx i)/\(∀g∈a,g∈fs)/\fp∈fs/\∀j∈fp,∀g∈a,j∉g|[],[],i,_,h=>by grind|[],_::_,_,h,_=>h.elim|_::_,[],_,h,_=>h.elim|b::fs,t0::ts,0,⟨h1,h2,h3,d⟩,f=>by grind[List.getElem?_cons_zero,Option.some.injEq,List.mem_cons_of_mem,List.mem_cons_self]|b::fs,t0::ts,i+1,⟨h1,h2,h3,d⟩,f=>by have⟨fp,a,k,l,m,n,o,p⟩:=Fs.Ke d f;refine⟨fp,b::a,k,l,⟨h1,h2,λj hj g hg=>h3 j hj g (n g hg),m⟩,λg hg=>?_,adT _ o,λj hj g hg e=>?_⟩;all_goals grind
theorem ak.eh(U:ak A H ts)(i:Nat)(hi:ts[i]?=some t):ak A H (t::ts.eraseIdx i):=by have⟨a,fs,b⟩:=U;have⟨fp,d,e,f,g,_,_,h⟩:=b.Ke hi;exact⟨a,fp::d,e,f,h,g⟩
theorem ak.get(U:ak A H ts)(i:Nat)(hi:ts[i]?=some t):∃fp,t.P H fp:=by have⟨fp,h,_⟩:=U.iO i hi;grind
theorem ak.as(U:ak A H ts)(i:Nat)(hi:ts[i]?=some t)(h:∀fp,t.P H fp->t'.P H fp):ak A H (ts.set i t'):=by have⟨fp,h1,_,h2⟩:=U.iO i hi;grind[lQ.refl]
theorem ak.EZ(U:ak A H ts)(hg:aS B A):ak B H ts:=by
 obtain⟨b,fs,a⟩:=U;refine⟨hg.trans b,fs,?_⟩;induction fs generalizing ts with
 |nil=>cases ts with|nil=>trivial|cons _ _=>trivial
 |cons f fs d=>cases ts with|nil=>trivial|cons t ts=>exact⟨a.1,λj hj=>aji hg.nx (a.2.1 j hj),a.2.2.1,d a.2.2.2⟩
theorem Fs.bV(h:ts.Perm us):∀{fs:List (List ah)},Fs A H fs ts->∃d,Fs A H d us/\∀g,g∈d↔g∈fs:=by
 induction h with
 |nil=>grind
 |cons t _ m=>intro fs h;cases fs with|nil=>trivial|cons f fs=>have⟨h1,h2,h3,e⟩:=h;have⟨d,n,o⟩:=m e;exact⟨f::d,⟨h1,h2,λj hj g hg=>h3 j hj g ((o g).1 hg),n⟩,λg=>by grind⟩
 |swap a b l=>intro fs h;cases fs with|nil=>trivial|cons f fs=>cases fs with|nil=>exact h.2.2.2.elim|cons g fs=>have⟨h1,h2,h3,e,p,u,q⟩:=h;refine⟨g::f::fs,⟨e,p,λj hj k i=>?_,h1,h2,λj hj k i=>h3 j hj k (adT _ i),q⟩,λk=>by grind⟩;grind
 |trans _ _ r s=>grind
theorem ak.bV(U:ak A H ts)(h:ts.Perm us):ak A H us:=by have⟨a,fs,b⟩:=U;have⟨d,e,_⟩:=b.bV h;exact⟨a,d,e⟩
theorem ak.dR{xs:List Th}(U:ak A H (xs++ts++us)):ak A H (ts++(xs++us)):=by have:=U.bV (aiq.append_right us);grind
theorem ak.jP{xs:List Th}(U:ak A H (ts++(xs++us))):ak A H (xs++ts++us):=by rw[<-ahD]at U;exact U.bV (aiq.append_right us)
theorem ak.BH(U:ak A H (t::ts++us)):ak A H (ts++t::us):=U.bV aii.symm
theorem ak.sY(U:ak A H (ts++t::us)):ak A H (t::ts++us):=U.bV aii
theorem Fs.sub(h:us.Sublist ts):∀{fs:List (List ah)},Fs A H fs ts->∃b,Fs A H b us/\∀g∈b,g∈fs:=by
 induction h with
 |slnil=>grind
 |cons a _ d=>intro fs h;cases fs with|nil=>trivial|cons f fs=>have⟨b,k,i⟩:=d h.2.2.2;grind
 |cons_cons a _ d=>intro fs h;cases fs with|nil=>trivial|cons f fs=>have⟨h1,h2,h3,l⟩:=h;have⟨b,k,i⟩:=d l;exact⟨f::b,⟨h1,h2,λj hj g hg=>h3 j hj g (i g hg),k⟩,λg hg=>(acT.1 hg).elim (λe=>e▸acI ..) λh=>adT _ (i g h)⟩
theorem ak.sub(U:ak A H ts)(h:us.Sublist ts):ak A H us:=by have⟨a,fs,b⟩:=U;have⟨d,e,_⟩:=b.sub h;exact⟨a,d,e⟩
theorem ak.skip{a:List Th}(U:ak A H (ts++a++us)):ak A H (ts++us):=by rw[ahD]at U;exact U.sub ((List.sublist_append_right a us).append_left ts)
end
section
def tS(e size:Nat)(vs:List AV)(n:Nat)(full:Bool)(sv:AV):Th where
 P H fp:=cP H fp e size vs n full sv
 fr h a hg:=h.frame a hg
 lt h:=h.below
def tB(e:Nat)(q:ah)(vs:List AV):Th where
 P H fp:=q∈fp/\(∀j∈fp,j=q)/\∃c,H.get q=.cells c vs.length e true [] 0/\(∀j(h:j<vs.length),c.bp .ajS j=vs[j])/\q.am<H.next.am
 fr h b hg:=by
  have⟨h1,h2,c,h3,d,a⟩:=h
  exact⟨h1,h2,c,by rw[hg _ h1];exact h3,d,aim a b⟩
 lt h:=by
  have⟨_,h2,c,_,_,a⟩:=h
  intro j hj;rw[h2 j hj];exact a
variable{A H H':ai}{ts us:List Th}{e size n o m i k bytes:Nat}{vs ws:List AV}{sv v w:AV}{full ex:Bool}{q:ah}{cap:Nat}{fp:List ah}
variable{ab:Nat->aV}{c:Cx}{s:List SI}{L:Kn}{d:Option ah}{l:List bD}
theorem ao{v:AV}{l:List AV}(h:v.cW=true)(h2:cU l=true):cU (v::l)=true:=by simp[h,h2,cU,ajL]
theorem cP.Kf(h:cP H fp e size vs n full (.slice q 0 n cap ex))(b:vs[o]?=some v):aY H q o=some v:=by
 have⟨a,e1⟩:=aiF.1 b;have c:0<n:=by
  have:=h.sl.length;rcases Nat.eq_zero_or_pos n with e|e;·subst e;simp at this;rw[this]at a;simp at a
  exact e
 have⟨i,f,g,j,d,_,_,hat,_⟩:=h.sl.at c;grind
theorem tB.cell{fp:List ah}(h:(tB e q vs).P H fp)(b:vs[o]?=some v):aY H q o=some v:=by have⟨_,_,c,h3,d,_⟩:=h;have⟨a,e1⟩:=aiF.1 b;simp only[aY,h3,show aiu o vs.length=true from ajP aiV a,bi,d o a,e1]
theorem tB.kU{fp:List ah}(h:(tB e q vs).P H fp)(a:o+m<=vs.length):dE H q o m=some ((vs.drop o).take m):=by have⟨_,_,c,h3,b,_⟩:=h;grind[uG,List.length_take,List.length_drop,Nat.min_eq_left,dE]
def sp(vs:List AV)(o:Nat)(ws:List AV):List AV:=vs.take o++(ws++vs.drop (o+ws.length))
theorem E0(h:o+ws.length<=vs.length):(sp vs o ws).length=vs.length:=by simp[sp];omega
theorem Kg(h:o+ws.length<=vs.length)(j:Nat):(sp vs o ws)[j]?=if o<=j/\j<o+ws.length then ws[j - o]? else vs[j]?:=by unfold sp;grind
theorem TT(h:o<vs.length):sp vs o [w]=vs.set o w:=by
 apply List.ext_getElem?;intro j;rw[Kg (by simp;omega),List.getElem?_set];simp only[aiv];by_cases hj:o=j;·subst hj;rw[aG aa,aG rfl,aG h];simp
 rw[an aa,an hj]
theorem tB.sX{fp:List ah}(h:(tB e q vs).P H fp)(a:o+ws.length<=vs.length)(h1:cU ws=true):∃H' fp',gF H q o ws=some H'/\lQ fp fp' H H'/\(tB e q (sp vs o ws)).P H' fp':=by
 have⟨d,h2,c,h3,f,g⟩:=h;have hd:(decide (0<=o)&&decide (o+ws.length<=vs.length)&&cU ws)=true:=by simp only[ah4,decide_eq_true_eq,h1,and_true];omega
 refine⟨(H.eG []).set q (.cells (ez c o ws) vs.length e true [] 0),[q],by simp only[gF,h3,hd,bi],⟨Nat.le_of_eq (by rw[ai.eH];rfl),λj hj=>?_,λj hj i=>?_⟩,abP.2 rfl,λj hj=>abP.1 hj,ez c o ws,?_,λj hj=>?_,by rw[ai.eH];exact g⟩;·rw[abP]at hj;subst hj;exact .inl d
 .rw[ai.aF,an λe:j=q=>hj (by rw[e];exact d)];rfl
 .rw[ai.aF,aG rfl,E0 a]
 rw[E0 a]at hj;rw[li];have:=Kg a j;rw[getElem?_pos (sp vs o ws) j (by rw[E0 a];exact hj)]at this;split;·rename_i b;rw[aG b,getElem?_pos ws _ aa]at this;injection this with this;simp only[ah3];rw[getElem?_pos ws _ aa];simp[this]
 rename_i b;rw[an b,getElem?_pos vs _ hj]at this;injection this with this;rw[f j hj,this]
theorem RO.eD(U:ak A H ts)(i:Nat){x:aJ}(h:RO ab c l s (bq L d v) H)(a:aT L x=.aD q o:=by exact cw)(hi:ts[i]?=some (tB e q vs):=by rfl)(hv:vs[o]?=some v:=by rfl):RO ab c (⟨d,.be x,none,[],[]⟩::l) s L H:=by have⟨fp,b⟩:=U.get i hi;grind[RO.be,tB.cell]
theorem RO.co(U:ak A H ts)(i:Nat){x:aJ}(h:RO ab c l s (bq L d (.agg ((vs.drop o).take m))) H)(a:aT L x=.aD q o:=by exact cw)(hi:ts[i]?=some (tB e q vs):=by rfl)(hm:o+m<=vs.length:=by first|decide|exact aib rfl|simp|omega):RO ab c (⟨d,.eF m x,none,[],[]⟩::l) s L H:=by have⟨fp,b⟩:=U.get i hi;grind[RO.eF,tB.kU]
theorem RO.cZ(U:ak A H ts)(i:Nat){x:aJ}(h:RO ab c l s (bq L d v) H)(a:aT L x=.aD q o:=by exact cw)(hi:ts[i]?=some (tS e size vs n full (.slice q 0 n cap ex)):=by rfl)(hv:vs[o]?=some v:=by rfl):RO ab c (⟨d,.be x,none,[],[]⟩::l) s L H:=by have⟨fp,b⟩:=U.get i hi;exact RO.be h a (cP.Kf b hv)
theorem RO.dJ(U:ak A H ts)(i:Nat){a x:aJ}(h:∀H',ak A H' (ts.set i (tB e q (vs.set o w)))->RO ab c l s (bq L d .ajS) H')(b:aT L a=.aD q o:=by exact cw)(f:aT L x=w:=by exact cw)(hi:ts[i]?=some (tB e q vs):=by rfl)(g:o<vs.length:=by first|decide|exact aib rfl|simp|omega)(j:w.cW=true:=by first|rfl|assumption)(k:w.cells=[w]:=by first|rfl|assumption)(hd:w.br=true:=by first|rfl|assumption):RO ab c (⟨d,.store 1 a x,none,[],[]⟩::l) s L H:=by have⟨fp,m,_,hu⟩:=U.iO i hi;grind[tB.sX,List.length_singleton,cU,TT,RO.store]
theorem RO.eY(U:ak A H ts)(i:Nat){a x:aJ}(h:∀H',ak A H' (ts.set i (tB e q (sp vs o ws)))->RO ab c l s (bq L d .ajS) H')(b:aT L a=.aD q o:=by exact cw)(f:aT L x=.agg ws:=by exact cw)(hi:ts[i]?=some (tB e q vs):=by rfl)(g:o+ws.length<=vs.length:=by first|decide|exact aib rfl|simp|omega)(j:ws.length=n:=by first|rfl|simp)(k:cU ws=true:=by repeat first|rfl|assumption|(refine ao ?_ ?_)):RO ab c (⟨d,.store n a x,none,[],[]⟩::l) s L H:=by have⟨fp,m,_,hu⟩:=U.iO i hi;have⟨H',fp',h1,h2,h3⟩:=tB.sX (ws:=ws) m g k;exact RO.store (v:=.agg ws) h1 (h H' (hu h2 h3)) b f rfl j
theorem Kh.set{b:Type}{f:b->AV}{a:List b}(h:cP H fp e 1 (a.map f) a.length full (.slice q 0 a.length cap ex))(c:k<a.length)(z:b)(h1:(f z).cW=true):∃H',gF H q (0+k*1) [f z]=some H'/\lQ fp [q] H H'/\cP H' [q] e 1 ((a.set k z).map f) (a.set k z).length full (.slice q 0 (a.set k z).length cap ex):=by
 have d:=(cP.mem h).2.1;have:=cP.sX h (o:=0+k*1) (ws:=[f z]) (us:=(a.set k z).map f) (by simp;omega) (by simp[cU,h1]) aC λj hj=>by
  simp only[aig]at hj;simp only[aiw,List.getElem?_set,aiv];by_cases e:k=j;·subst e;rw[aG rfl,aG aa];simp[c]
  rw[an e,an aa]
 grind
theorem RO.gk{b:Type}{f:b->AV}{zs:List b}(U:ak A H ts)(i:Nat)(z:b)(g:zs.length=n){a x:aJ}(h:∀H',ak A H' (ts.set i (tS e 1 ((zs.set k z).map f) n full (.slice q 0 n cap ex)))->RO ab c l s (bq L d .ajS) H')(j:aT L a=.aD q (0+k*1):=by exact cw)(m:aT L x=f z:=by exact cw)(hi:ts[i]?=some (tS e 1 (zs.map f) n full (.slice q 0 n cap ex)):=by rfl)(ho:k<zs.length:=by first|omega|assumption)(o:(f z).cW=true:=by first|rfl|assumption)(r:(f z).cells=[f z]:=by first|rfl|assumption)(hd:(f z).br=true:=by first|rfl|assumption):RO ab c (⟨d,.store 1 a x,none,[],[]⟩::l) s L H:=by subst g;have⟨fp,p,_,hu⟩:=U.iO i hi;have⟨H',h1,h2,h3⟩:=Kh.set (k:=k) p ho z o;refine RO.store (by grind) (h H' ?_) j m hd (by grind);have:=hu (t':=tS e 1 ((zs.set k z).map f) (zs.set k z).length full (.slice q 0 (zs.set k z).length cap ex)) h2 h3;grind
theorem nV{a:Type}{f:a->AV}{b:List a}(z:a)(c:k<b.length):(b.map f)[0+k*1]?=some (f (b.getD k z)):=by grind
theorem tB.new(e:Nat)(vs:List AV)(H:ai):(tB e H.next vs).P (H.new (.cells (cq vs) vs.length e true [] 0)) [H.next]:=⟨abP.2 rfl,λj hj=>abP.1 hj,cq vs,by rw[ai.cO,aG rfl],λj hj=>xg hj,by rw[ai.lr];omega⟩
theorem rG(H:ai):qj H [H.next]:=λj hj=>by grind
theorem ak.E1(U:ak A H ts)(e:Nat)(vs:List AV):ak A (H.new (.cells (cq vs) vs.length e true [] 0)) (tB e H.next vs::ts):=U.push (aS.new H _) (tB.new e vs H) (rG H)
theorem RO.ct(U:ak A H ts){x:aJ}(h:∀H' q,ak A H' (tB e q v.cells::ts)->RO ab c l s (bq L d (.aD q 0)) H')(a:aT L x=v:=by exact cw)(b:v.br=true:=by first|rfl|assumption)(ho:cU v.cells=true:=by repeat first|rfl|assumption|(refine ao ?_ ?_)):RO ab c (⟨d,.box e x,none,[],[]⟩::l) s L H:=RO.box (h _ _ (U.E1 e v.cells)) a b ho
theorem RO.dN(U:ak A H ts){a:List AV}(h:∀H' q,ak A H' (tB e q a::ts)->RO ab c l s (bq L d (.aD q 0)) H'):RO ab c (⟨d,.alloc e a,none,[],[]⟩::l) s L H:=RO.alloc (h _ _ (U.E1 e a))
theorem RO.dS(U:ak A H ts){p:ah}{a us:List AV}{x:aJ}{xv:AV}(h:∀H' q,ak A H' (tB e q us::ts)->RO ab c l s ((p,.aD q 0)::L) H')(f:∀w,aT ((p,w)::L) x=xv:=by(intro w;conv=>lhs;whnf)<;>rfl)(k:xv.cells=us:=by first|rfl|assumption)(m:us.length=n:=by first|rfl|simp)(o:a.length=n:=by rfl)(h1:cU us=true:=by repeat first|rfl|assumption|(refine ao ?_ ?_))(hd:xv.br=true:=by first|rfl|assumption):RO ab c (⟨some p,.alloc e a,none,[],[]⟩::⟨none,.store n (.t p) x,none,[],[]⟩::l) s L H:=by
 refine RO.dN U λH1 q b=>?_;have⟨fp,g,_,hu⟩:=b.iO 0 rfl;have⟨H',fp',r,i,d⟩:=tB.sX (o:=0) (ws:=us) g aa h1;have j:sp a 0 us=us:=by simp[sp,List.drop_eq_nil_of_le (show a.length<=us.length by omega)]
 rw[j]at d;exact RO.store (i:=q) (o:=0) (v:=xv) (by grind) (h H' q (hu i d)) (by show lk (bq L (some p) _) p=_;simp only[bq,lk,ah.fg.2 rfl]) (f _) hd (by grind)
theorem RO.jy(U:ak A H ts){a:List AV}{x y:aJ}(h:∀H' q,ak A H' (tS e size (dY a n) n true (.slice q 0 n n true)::ts)->RO ab c l s (bq L d (.slice q 0 n n true)) H')(hx:aT L x=.int 3 (.ofNat n):=by exact cw)(hy:aT L y=.int 3 (.ofNat n):=by exact cw)(hz:(dY a n).length=n*size)(hb:n*bytes<=70368744177664:=by omega)(b:n<=70368744177664:=by omega):RO ab c (⟨d,.mH e bytes size a x y,none,[],[]⟩::l) s L H:=RO.mH (h _ _ (U.push (aS.new H _) (cP.new hz true true) (rG H))) hx hy
theorem eK(z:AV):∀n,dY [z] n=acJ n z|0=>rfl|n+1=>by simp only[dY,eK z n];rfl
theorem RO.ji(U:ak A H ts)(size:Nat){b:List AV}(h:∀H' v,ak A H' (tS e size [] 0 true v::ts)->RO ab c l s (bq L d v) H'):RO ab c (⟨d,.buildSlice e 0 b [],none,[],[]⟩::l) s L H:=RO.TR (size:=size) λH' a fp' h1 h2 h3=>h H' a (U.push h2 h1 h3)
theorem ak.mh(U:ak A H ts)(e size:Nat):ak A H (tS e size [] 0 true .bh::ts):=U.push (fp:=[]) (aS.refl H) (.inl ⟨rfl,rfl,rfl,rfl⟩) λj hj=>by grind
theorem RO.ls(U:ak A H ts)(i:Nat){x y:aJ}{b:AV}{f:List AV}(hs:Sl H size ws k b)(h:∀H' v,ak A H' (ts.set i (tS e size (vs++ws) (n+k) true v))->RO ab c l s (bq L d v) H')(hi:ts[i]?=some (tS e size vs n true sv):=by rfl)(h1:cU ws=true:=by repeat first|rfl|assumption|(refine ao ?_ ?_))(g:aT L x=sv:=by exact cw)(j:aT L y=b:=by exact cw)(hb:(n+k)*bytes<=70368744177664:=by omega)(m:n+k<=70368744177664:=by omega):RO ab c (⟨d,.append e bytes size f false x y,none,[],[]⟩::l) s L H:=by have⟨fp,o,_,hu⟩:=U.iO i hi;exact RO.TS o hs h1 (λa H' fp' p q=>h H' a (hu q p)) g j hb m
theorem RO.push(U:ak A H ts)(i:Nat){p:ah}{x:aJ}{b:List (Nat×Nat×aJ)}{f a:List AV}(h:∀w H' v,ak A H' (ts.set i (tS e size (vs++ws) (n+1) true v))->RO ab c l s (bq ((p,w)::L) d v) H')(hi:ts[i]?=some (tS e size vs n true sv):=by rfl)(hl:nU L (dY f 1) b=some ws:=by exact cw)(j:ws.length=size:=by first|rfl|simp)(h1:cU ws=true:=by repeat first|rfl|assumption|(refine ao ?_ ?_))(g:∀w,aT ((p,w)::L) x=sv:=by(intro w;conv=>lhs;whnf)<;>rfl)(hb:(n+1)*bytes<=70368744177664:=by omega)(hn:n+1<=70368744177664:=by omega):RO ab c (⟨some p,.buildSlice e 1 f b,none,[],[]⟩::⟨d,.append e bytes size a false x (.t p),none,[],[]⟩::l) s L H:=by
 refine RO.buildSlice ?_ hl h1;have hg:aS H (H.new (.cells (cq ws) ws.length e true [] 0)):=aS.new H _;have hs:Sl (H.new (.cells (cq ws) ws.length e true [] 0)) size ws 1 (.slice H.next 0 1 1 true):=by have:=(cP.new (H:=H) (e:=e) (size:=size) (n:=1) (vs:=ws) aa true true).sl;rw[show ws.length=1*size by omega];exact this
 exact RO.ls (U.bR hg) i hs (λH' v h2=>h _ H' v h2) hi h1 (g _) (by show lk (bq L (some p) _) p=_;simp only[bq,lk,ah.fg.2 rfl]) hb hn
theorem RO.i6(U:ak A H ts)(size:Nat){a:List (Nat×Nat×aJ)}{b:List AV}(h:∀H' q,ak A H' (tS e size ws n true (.slice q 0 n n true)::ts)->RO ab c l s (bq L d (.slice q 0 n n true)) H')(hl:nU L (dY b n) a=some ws:=by exact cw)(f:ws.length=n*size:=by rfl)(h1:cU ws=true:=by repeat first|rfl|assumption|(refine ao ?_ ?_)):RO ab c (⟨d,.buildSlice e n b a,none,[],[]⟩::l) s L H:=by refine RO.buildSlice ?_ hl h1;rw[f];exact h _ _ (U.push (aS.new H _) (cP.new f true true) (rG H))
theorem ak.jO(U:ak A H ts)(i:Nat)(hi:ts[i]?=some (tS e size vs n full sv))(a:n≠0):∃q cap ex,sv=.slice q 0 n cap ex:=by have⟨fp,b⟩:=U.get i hi;exact cP.jO b a
theorem Sl.all(h:Sl H size vs n sv):sv.br=true/\sv.cW=true/\sv.cells=[sv]/\lenOf sv=some n:=⟨h.br,h.cW,h.cells,h.len⟩
theorem ak.sl(U:ak A H ts)(i:Nat)(hi:ts[i]?=some (tS e size vs n full sv):=by rfl):Sl H size vs n sv:=by have⟨fp,a⟩:=U.get i hi;exact cP.sl a
theorem up{P:Nat->Prop}(n:Nat)(h:∀k,k<=n->(∀j,k<j->j<=n->P j)->P k):∀k,k<=n->P k:=by
 have:∀d k,n - k=d->k<=n->P k:=by intro d;induction d using Nat.strongRecOn with|ind d a=>intro k hd b;exact h k b λj h1 h2=>a (n - j) aa j rfl h2
 grind
end
end Go.al
namespace Go.G
structure ee where
 op:Nat
 to:Int
 args:List Int
 n:Int
 m:Int
 name:List Nat
 deriving Inhabited
structure Edge where
 block:Int
 args:List Int
 deriving Inhabited
structure fB where
 op:Nat
 args:List Int
 name:List Nat
 bw:List Nat
 go:List Edge
 deriving Inhabited
structure dK where
 params:List Int
 aA:List ee
 aq:fB
 deriving Inhabited
structure aP where
 name:List Nat
 params:Int
 aQ:Int
 aj:List dK
 deriving Inhabited
end Go.G
namespace Go.G
structure Sm(g:aP):Prop where
 nb:g.aj.length<=5000
 bl:∀b∈g.aj,b.params.length<=12/\b.aA.length<=40/\b.aq.args.length<=12/\b.aq.bw.length<=12/\b.aq.go.length<=12/\b.aq.name.length<=60
 st:∀b∈g.aj,∀s∈b.aA,s.args.length<=12/\s.name.length<=250
 ed:∀b∈g.aj,∀e∈b.aq.go,e.args.length<=12
end Go.G
namespace Go.al
abbrev aU(n:Nat):AV:=.int 4 (.ofNat n)
abbrev E2(H:ai)(l:List Nat)(sv:AV):Prop:=Sl H 1 (l.map aU) l.length sv
def cQ{h:Type}(size:Nat)(R:ai->h->List AV->Prop)(H:ai)(l:List h)(sv:AV):Prop:=
 ∃a,Sl H size a l.length sv/\∀k(b:k<l.length),R H l[k] ((a.drop (k*size)).take size)
def bX{h c:Type}(R:ai->h->c->Prop):Prop:=∀{H H':ai}{a:h}{b:c},aS H H'->R H a b->R H' a b
def po(H:ai)(e:G.Edge)(cs:List AV):Prop:=∃v,cs=[aI e.block,v]/\eE H e.args v
def nW(H:ai)(s:G.ee)(cs:List AV):Prop:=∃v,cs=[aU s.op,aI s.to,v,aI s.n,aI s.m,.str s.name]/\eE H s.args v
def nX(H:ai)(j:G.fB)(cs:List AV):Prop:=∃a b c,cs=[aU j.op,a,.str j.name,b,c]/\eE H j.args a/\E2 H j.bw b/\cQ 2 po H j.go c
def iP(H:ai)(b:G.dK)(cs:List AV):Prop:=∃a c d,cs=a::c::d/\eE H b.params a/\cQ 6 nW H b.aA c/\nX H b.aq d
def dt(H:ai)(g:G.aP)(cs:List AV):Prop:=∃a,cs=[.str g.name,aI g.params,aI g.aQ,a]/\cQ 7 iP H g.aj a
theorem bX.gp{h:Type}{size:Nat}{R:ai->h->List AV->Prop}(a:bX R):bX (cQ size R):=λg⟨b,h1,h2⟩=>⟨b,g.sl h1,λk c=>a g (h2 k c)⟩
theorem bX.E3:bX po:=λg⟨v,h1,h2⟩=>⟨v,h1,g.sl h2⟩
theorem bX.step:bX nW:=λg⟨v,h1,h2⟩=>⟨v,h1,g.sl h2⟩
theorem bX.uH:bX nX:=λg⟨a,b,c,h1,h2,h3,d⟩=>⟨a,b,c,h1,g.sl h2,g.sl h3,bX.E3.gp g d⟩
theorem bX.block:bX iP:=λg⟨a,b,c,h1,h2,h3,d⟩=>⟨a,b,c,h1,g.sl h2,bX.step.gp g h3,bX.uH g d⟩
theorem bX.fS:bX dt:=λg⟨a,h1,h2⟩=>⟨a,h1,bX.block.gp g h2⟩
variable{h:Type}{size n k:Nat}{R:ai->h->List AV->Prop}{H:ai}{la:List h}{sv:AV}
theorem cQ.len(b:cQ size R H la sv):lenOf sv=some la.length:=by obtain⟨a,b,_⟩:=b;exact b.len
theorem cQ.br(b:cQ size R H la sv):sv.br=true:=by obtain⟨a,b,_⟩:=b;exact b.br
theorem cQ.cW(b:cQ size R H la sv):sv.cW=true:=by obtain⟨a,b,_⟩:=b;exact b.cW
theorem cQ.cells(b:cQ size R H la sv):sv.cells=[sv]:=by obtain⟨a,b,_⟩:=b;exact b.cells
theorem cQ.all(a:cQ size R H la sv):sv.br=true/\sv.cW=true/\sv.cells=[sv]/\lenOf sv=some la.length:=⟨a.br,a.cW,a.cells,a.len⟩
theorem cQ.at(g:cQ size R H la sv)(a:k<la.length):∃q o cap ex cs,sv=.slice q o la.length cap ex/\R H la[k] cs/\cs.length=size/\(∀j v,cs[j]?=some v->aY H q (o+k*size+j)=some v)/\dE H q (o+k*size) size=some cs:=by
 have⟨b,h1,h2⟩:=g;have hl:=h1.length;have c:k*size+size<=b.length:=by rw[hl,<-Nat.succ_mul];exact aix _ a
 have⟨q,o,cap,ex,e,_,_,d,f⟩:=h1.at aa;grind
theorem po.one{e:G.Edge}{cs:List AV}(a:po H e cs):cU cs=true:=by obtain⟨v,rfl,a⟩:=a;exact ao rfl (ao a.cW rfl)
theorem nW.one{e:G.ee}{cs:List AV}(a:nW H e cs):cU cs=true:=by obtain⟨v,rfl,a⟩:=a;exact ao rfl (ao rfl (ao a.cW rfl))
theorem nX.one{e:G.fB}{cs:List AV}(d:nX H e cs):cU cs=true:=by obtain⟨a,b,c,rfl,h1,h2,h3⟩:=d;exact ao rfl (ao h1.cW (ao rfl (ao h2.cW (ao h3.cW rfl))))
theorem iP.one{e:G.dK}{cs:List AV}(d:iP H e cs):cU cs=true:=by obtain⟨a,b,c,rfl,h1,h2,h3⟩:=d;exact ao h1.cW (ao h2.cW h3.one)
theorem dt.one{e:G.aP}{cs:List AV}(a:dt H e cs):cU cs=true:=by obtain⟨v,rfl,a⟩:=a;exact ao rfl (ao rfl (ao rfl (ao a.cW rfl)))
variable{ab:Nat->aV}{c:Cx}{s:List SI}{L:Kn}{d:Option ah}{l:List bD}
theorem RO.bO{B:ai}(hg:aS B H){x y:aJ}{j kd:Nat}(hs:cQ size R B la sv)(n:∀q o cs(hj:j<la.length),R B la[j] cs->cs.length=size->(∀t v,cs[t]?=some v->aY H q (o+t)=some v)->dE H q o size=some cs->RO ab c l s (bq L d (.aD q o)) H)(e:aT L x=sv:=by exact cw)(f:aT L y=.int kd (.ofNat j):=by exact cw)(hj:j<la.length:=by first|assumption|omega):RO ab c (⟨d,.dI size x y,none,[],[]⟩::l) s L H:=by
 obtain⟨q,o,cap,ex,cs,rfl,h1,h2,h3,g⟩:=hs.at hj;have k:∀t,aY H q t=aY B q t/\dE H q t size=dE B q t size:=λt=>by
  have⟨m,b,_⟩:=hs;have a:q.am<B.next.am:=by
   rcases b with⟨n,_⟩|⟨i,_,_,_,_,_,_,_,_,_,n,_,_,_,_,hi,_⟩;·cases n
   injection n with n;subst n;exact hi
  exact⟨hg.aY a t,by simp only[dE,hg.cM q a]⟩
 grind[RO.dI,trans]
theorem RO.jk{B:ai}(hg:aS B H){a:List Int}{x y:aJ}{j kd:Nat}(hs:eE B a sv)(i:∀q o(hj:j<a.length),aY H q o=some (aI a[j])->RO ab c l s (bq L d (.aD q o)) H)(b:aT L x=sv:=by exact cw)(e:aT L y=.int kd (.ofNat j):=by exact cw)(hj:j<a.length:=by first|assumption|omega):RO ab c (⟨d,.dI 1 x y,none,[],[]⟩::l) s L H:=RO.TQ (hg.sl hs) (λq o z f g _=>i q o hj (by grind)) b e hj
theorem RO.iQ{B:ai}(hg:aS B H){f:h->AV}{x y:aJ}{j kd:Nat}(hs:Sl B 1 (la.map f) la.length sv)(m:∀q o(hj:j<la.length),aY H q o=some (f la[j])->RO ab c l s (bq L d (.aD q o)) H)(b:aT L x=sv:=by exact cw)(e:aT L y=.int kd (.ofNat j):=by exact cw)(hj:j<la.length:=by first|assumption|omega):RO ab c (⟨d,.dI 1 x y,none,[],[]⟩::l) s L H:=RO.bO (R:=λ_ a cs=>cs=[f a]) hg ⟨_,hs,λk g=>by simp[g,ajo,ah6]⟩ (λq o cs hj i _ hat _=>m q o hj (by subst i;exact hat 0 _ rfl)) b e hj
theorem RO.TU{B:ai}{g:List AV}{n e:Nat}{x y:aJ}{b k:Nat}(hs:Sl B size g n sv)(z:∀a,Sl B size (g.take (b*size)) b a->RO ab c l s (bq L d a) H)(p:aT L x=sv:=by exact cw)(q:aT L y=.int k (.ofNat b):=by exact cw)(hb:b<=n:=by omega):RO ab c (⟨d,.gW e size x none (some y) none,none,[],[]⟩::l) s L H:=by
 rcases hs with⟨rfl,rfl,rfl⟩|⟨i,o,cap,ex,t,m,u,f,aK,fz,rfl,hg,w,hl,v,hi,r⟩;·have:b=0:=aa;subst this;refine RO.zu (m:=0) (b:=0) (a:=0) p rfl ?_ rfl (z _ (.inl ⟨rfl,rfl,aC⟩));simp only[kh,q];rfl
 refine RO.gW (m:=cap) (b:=b) (a:=0) p rfl ?_ rfl aC ?_;·simp only[kh,q];exact qk aa
 have e1:(if ex&&decide (cap=0)then o else o+0*size)=o:=by split<;>omega
 rw[e1,ajF,ajF];have bG:b*size<=n*size:=aix _ hb;refine z _ (.inr ⟨i,o,cap,_,t,m,u,f,aK,fz,rfl,hg,aa,?_,λj hj=>?_,hi,aa⟩);·rw[aiA];omega
 rw[aiA]at hj;rw[v j aa];simp
theorem RO.TV{p:List AV}{n e:Nat}{x y:aJ}{b k o cap:Nat}{q:ah}(hs:Sl H size p n (.slice q o n cap true))(D:∀a,Sl H size (p.drop (b*size)) (n - b) a->RO ab c l s (bq L d a) H)(u:aT L x=.slice q o n cap true:=by exact cw)(hy:aT L y=.int k (.ofNat b):=by exact cw)(hb:b<=n:=by omega):RO ab c (⟨d,.gW e size x (some y) none none,none,[],[]⟩::l) s L H:=by
 rcases hs with⟨h0,_⟩|⟨i,B,r,ex,v,m,w,f,aK,fz,h0,hg,C,hl,z,hi,t⟩;·grind
 injection h0 with h1 h2 _ h3 A;subst h1;subst h2;subst h3;subst A;refine RO.gW (m:=cap) (b:=n) (a:=b) u rfl (by simp[kh]) ?_ aC ?_;·simp only[kh,hy];exact qk hb
 have bG:b*size<=n*size:=aix _ hb;refine D _ (.inr ⟨q,_,_,_,v,m,w,f,aK,fz,rfl,hg,?_,?_,λj hj=>?_,hi,aa⟩);·rw[Nat.sub_mul];split<;>omega
 .rw[ajw,hl,Nat.sub_mul]
 rw[ajw]at hj;split;·rename_i g;simp only[ajB,decide_eq_true_eq]at g;have:b=n:=aa;subst this;omega
 rw[ajn,z (b*size+j) aa];simp
theorem RO.TW{B:ai}{e:Nat}{x y:aJ}{b k:Nat}(hs:cQ size R B la sv)(m:∀a,cQ size R B (la.take b) a->RO ab c l s (bq L d a) H)(g:aT L x=sv:=by exact cw)(i:aT L y=.int k (.ofNat b):=by exact cw)(hb:b<=la.length:=by omega):RO ab c (⟨d,.gW e size x none (some y) none,none,[],[]⟩::l) s L H:=by have⟨j,h1,h2⟩:=hs;refine RO.TU h1 (λa h3=>m a ⟨_,by rw[aiA,ajz hb];exact h3,λk f=>?_⟩) g i hb;rw[aiA,ajz hb]at f;have:=h2 k aa;rw[List.getElem_take,List.drop_take,List.take_take,ajz (by have:(k+1)*size<=b*size:=aix _ f;rw[Nat.succ_mul]at this;omega)];exact this
def pk(M:Kn):List ah->Kn
 |[]=>[]
 |p::l=>(p,lk M p)::pk M l
theorem Ru.nm{H:ai}(a:∀S M,S=s->M=L->Ru ab c S M H):Ru ab c s L H:=a s L rfl rfl
theorem iZ.pk(M:Kn):∀a,iZ (pk M a) M|[]=>trivial|_::l=>⟨rfl,iZ.pk M l⟩
theorem iZ.sZ{M K:Kn}(h2:iZ K M):∀{l:Kn},iZ l M->iZ (l++K) M|[],_=>h2|_::_,a=>⟨a.1,iZ.sZ h2 a.2⟩
theorem Ru.bI{M L cz:Kn}{a:List ah}{H:ai}(b:M=L)(d:Ru ab c s (cz++pk M a) H)(hl:iZ cz L:=by repeat'(first|exact trivial|refine⟨rfl,?_⟩)):Ru ab c s M H:=d.ph (iZ.sZ (iZ.pk M a) (by grind))
theorem Ru.wk{M:Kn}{H:ai}(a:Ru ab c s L H)(hl:iZ L M:=by repeat'(first|exact trivial|refine⟨rfl,?_⟩)):Ru ab c s M H:=a.ph hl
end Go.al
namespace Go.al.R
section
open Go.al Go.Proofs
abbrev bj(n:Nat):={a:aV//(Tryz.prog.funcs[n]?).bind (pP Tryz.prog)=some a}
abbrev BI:Program:={toTables:=Tryz.progTables,funcs:= #[]}
def qp(n:Nat):Code->Option bm
 |.region _ o d=>do
  let l<-o.toList.mapM (oT BI n o)
  some (.region (if d then oV l (Region.before o) [] (order l (Region.before o) o.size 0 [])else l))
 |.seq a b=>do
  let a<-qp n a
  let b<-qp n b
  some (match Ov.dL (.seq a b)with
   |some t=>.dL t
   |none=>.seq a b)
 |.cond c a b=>do some (.cond (<-ff BI n c) (<-qp n a) (<-qp n b))
 |.block i b=>(qp n b).map (.block i)
 |.loop b=>(qp n b).map .loop
 |.rangeFunc f p a b=>do some (.rangeFunc (<-ff BI n f) (p.toList.map ah.cG) (<-qp n a) (<-qp n b))
 |.scope b=>qp n b
 |.exit i=>some (.exit i)
 |.ret=>some .ret
 |_=>some .skip
def TX(f:Func):Option aV:=do some (.code f.ntmps (<-f.results.toList.mapM (wc BI f.ntmps)) (<-qp f.ntmps (<-f.body)))
theorem TY(n:Nat): @OfNat.ofNat Int n (@instOfNat n)=aiC (@OfNat.ofNat Nat n (instOfNatNat n)):=rfl
theorem TZ(n:Nat): -aiC (n+1)=Int.negSucc n:=rfl
theorem bk{a b:aV}{o:Option aV}(f:Func)(h:TX f=some a:=by cbv)(e:a=b:=by simp -failIfUnchanged only[TY,TZ];rfl)(k:o=some b:=by kernel_rfl):o=some b:=k
end
end Go.al.R
end
