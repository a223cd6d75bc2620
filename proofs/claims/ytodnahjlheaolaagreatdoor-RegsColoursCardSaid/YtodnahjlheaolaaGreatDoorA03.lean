/- A part. No conditions. -/
import Derived.Test.YtodnahjlheaolaaGreatDoorA02
import Derived.Test.YtodnahjlheaolaaGreatDoorA01
import Derived.Sort.Grow
import Derived.Sort.Row
set_option linter.all false
open List renaming range->ahq
open Nat renaming beq->ahr,blt->ahO,ble->aih
open Int renaming ofNat->ah0
open List.Perm renaming swap->ah5
open List.Pairwise renaming nil->ai4
open Eq renaming mpr->ai5
open Prod renaming fst->ai6
noncomputable section
namespace Go.al
variable{B H H':ai}{O V n nt u z:Nat}{A o q:az AV}{D:Fr->ai->Prop}{M w':World}{N:ah}{J pn' s:List ah}{Q:Option ah}{S b:aP}{I k p rest:List Nat}{W:cq}{Y:AV}{Z:Array Value}{m:Array Bool}{e:Type}{t:bD}{F:Program}{X:List bD}{g:Array Oper}{c:Nat->aX}
section
variable[Ov]
variable{P:Program}{nt:Nat}{aA:Array Oper}{l:List bD}{am:List Nat}
theorem qq(af:az AV)(d:Option ah)(v:AV)(t:ah):(aQ af d v).get .ai8 t=if d=some t then v else af.get .ai8 t:=by cases d with|none=>rfl|some d=>simp only[aQ,az.aG];grind
theorem Ei(b:∀a∈t.ke,A.get .ai8 a=q.get .ai8 a):d8 A t.guard=d8 q t.guard:=by grind[bD.ke,d8]
theorem IX(b:∀a∈t.ke,A.get .ai8 a=q.get .ai8 a):ka A t.guard=ka q t.guard:=by grind[bD.ke,ka]
theorem wU(a:N∈t.op.co):N∈t.ke:=by simp[a,bD.ke]
structure kT(P:Program)(nt:Nat)(aA:Array Oper)(l:List bD)(am:List Nat):Prop where
 hl:aA.toList.mapM (pf P nt aA)=some l
 he:yT aA=true
 eC:∀i,i<aA.size->i∈am
 eB:wz l (Region.before aA) am=true
theorem IY{c:Type}{m:c->Option e}:∀{as:List c}{bs:List e},as.mapM m=some bs->∀(i:Nat)(b:e),bs[i]?=some b->∃a,as[i]?=some a/\m a=some b|[],bs,k,i,b,hb=>by grind|a::as,bs,k,i,b,hb=>by simp only[aiO,aeX,abF,ahe,aa9]at k;obtain⟨j,h0,d,h1,rfl⟩:=k;cases i with|zero=>grind|succ i=>simpa using IY h1 i b hb
theorem kT.op(b:kT P nt aA l am)(a:l[O]?=some t):∃o,aA[O]?=some o/\pf P nt aA o=some t:=by have⟨o,h1,h2⟩:=IY b.hl O t a;grind
def Ej(l:List bD)(b:Array Nat)(seen:List Nat)(e af:az AV)(H:ai)(i:Nat):Prop:=
 ∃(x:bD)(a bY:List Nat)(ex:az AV),l[i]?=some x/\seen=a++i::bY/\
  (∀t,(∃k∈bY,eR l k t)->ex.get .ai8 t=af.get .ai8 t)/\(∀t,(∀k∈bY,¬eR l k t)->ex.get .ai8 t=e.get .ai8 t)/\
  ((d8 ex x.guard=false/\ka ex x.guard=true/\∀d,x.dst=some d->af.get .ai8 d=.ai8)\/
   (d8 ex x.guard=true/\∃v,(∀d,x.dst=some d->af.get .ai8 d=v)/\
    ((x.op.kP=false/\∀H':ai,aH x.op ex H'=some (v,H'))\/
    (x.op.iZ=true/\(∀j,x.op.target ex=some j->H.get j≠.none/\∀k∈seen,Mk l af k j->fu b i k)/\∀H':ai,(∀j,x.op.target ex=some j->H'.get j=H.get j)->aH x.op ex H'=some (v,H'))\/
    (x.op.kP=true/\∃(nv:kC)(dq:bR)(j:ah),dq.kD/\v=nv.of j/\H.get j=dq/\∀H':ai,aH x.op ex H'=some (nv.of H'.next,H'.new dq)))))
structure Dr(P:Program)(Wr:cq)(nt:Nat)(aA:Array Oper)(l:List bD)(am:List Nat)(ac:Nat->aX)(K:Fr->ai->Prop)(bA:List ah)(bx:Option ah)(env0:az AV)
  (L:Array Bool)(seen rest:List Nat)(n:Nat)(af:az AV)(H:ai)(epi:az AV)(pn:List ah)(ρ:aP)(w:World)(tmps:Array Value):Prop where
 gj:seen.reverse++rest=am
 size:L.size=aA.size
 sub:∀i,In L i->i∈seen
 nP:∀i,In L i->∀j,kE aA i j->In L j
 Ek:∀i∈seen,Ch l i->In L i
 run:Go.al.aA False da ac n (ph l (Region.before aA) seen rest) ⟨af,bA,bx⟩ H K
 rH:∀t,(∀i∈seen,¬eR l i t)->af.get .ai8 t=env0.get .ai8 t
 sQ:∀t,(∀i∈seen,¬In L i->¬eR l i t)->epi.get .ai8 t=af.get .ai8 t
 zh:∀t i,i∈seen->¬In L i->eR l i t->epi.get .ai8 t=env0.get .ai8 t
 py:∀j,j∈pn↔∃i∈seen,¬In L i/\Mk l af i j
 ke:∀i i' j,i∈seen->i'∈seen->Mk l af i j->Mk l af i' j->i=i'
 qv:∀i j,i∈seen->Mk l af i j->j.ap<H.next.ap/\(j∈pn\/ρ j≠none)
 kD:∀i j,i∈seen->Mk l af i j->(∀c∈seen,Ch l c->¬fu (Region.before aA) c i)->(H.get j).kD
 bU:∀i∈seen,¬In L i->Ej l (Region.before aA) seen env0 af H i
 dJ:∀j∈pn,ρ j=none/\¬Wr.un j/\∀k,j∉(H.get k).aK
 E:gP ρ nt epi tmps
 fI:bm P Wr ρ (H.eI pn) w
section
variable{ac:Nat->aX}{rest:List Nat}{f:az AV}
theorem zi(a:kT P nt aA l am)(b:I.reverse++rest=am):I.Pairwise (λj i=>rA l (Region.before aA) i j=true)/\(∀i∈I,∀j∈rest,rA l (Region.before aA) i j=true):=by have:=(zg a.eB).1;grind
theorem nQ(a:I.reverse++rest=am)(hi:n∈I):n∈am:=by grind
theorem uv(a:I.reverse++rest=am)(hi:n∈rest):n∈am:=by grind
theorem sR(a:kT P nt aA l am)(hi:n∈am):∃x,l[n]?=some x/\rB x=true:=(zg a.eB).2 n hi
theorem zj(a:kT P nt aA l am)(b:I.reverse++rest=am)(hi:n∈rest):n∉I:=by intro hs;have⟨x,c,_⟩:=sR a (uv b hi);exact(px ((zi a b).2 n hs n hi) c c).1 rfl
theorem IZ(a:kT P nt aA l am)(b:k.reverse++rest=am)(hs:k=I++n::p):(∀c∈p,rA l (Region.before aA) c n=true)/\(∀c∈I,rA l (Region.before aA) n c=true):=by have:=(zi a b).1;grind
theorem Dr.Ip(hR:kT P nt aA l am)(d:Dr P W nt aA l am ac D J Q q m I rest V o B f s S M Z)(hi:¬In m O)(hd:∀j,kE aA O j->In m j)(hx:l[O]?=some t)(hs:I=k++O::p)(h1:∀ag,(∃av∈p,eR l av ag)->A.get .ai8 ag=o.get .ai8 ag)(h2:∀ag,(∀av∈p,¬eR l av ag)->A.get .ai8 ag=q.get .ai8 ag):∀ag∈t.ke,f.get .ai8 ag=A.get .ai8 ag:=by
 intro ag ht;have X:=sP d.nP O hd;have⟨x,N⟩:=IZ hR d.gj hs;have inj:∀{a b:Nat},a∈I->b∈I->eR l a ag->eR l b ag->a=b:=λha hb=>eR.inj hR.eB (nQ d.gj ha) (nQ d.gj hb);by_cases R:∃av∈I,eR l av ag
 .have⟨av,u,C⟩:=R;have T:=u;rw[hs,ac6,ac2]at T;have⟨y,v,z⟩:=C;rcases T with Y|rfl|Y;·have hA:=((px (N av Y) hx v).2.2.2.1 ag z ht).1;have E:¬In m av:=λF=>hi (sP d.nP av (d.nP av F) O hA);rw[d.zh ag av u E ⟨y,v,z⟩];refine(h2 ag λk' r c=>?_).symm;have:=inj u (by rw[hs];simp[r]) ⟨y,v,z⟩ c;subst this;exact(px (x av r) v hx).2.1 hA
  .rw[d.zh ag av u hi ⟨y,v,z⟩];refine(h2 ag λk' r c=>?_).symm;have:=inj u (by rw[hs];simp[r]) ⟨y,v,z⟩ c;subst this;exact(px (x av r) v v).1 rfl
  have hA:=((px (x av Y) v hx).2.2.1 ag z).2 ht;have F:=X av hA;rw[h1 ag ⟨av,Y,y,v,z⟩];refine d.sQ ag λk' r E c=>?_;have:=inj u r ⟨y,v,z⟩ c;subst this;exact E F
 have G:∀av∈I,¬eR l av ag:=λav u C=>R ⟨av,u,C⟩;rw[d.sQ ag λav u _=>G av u,d.rH ag G];exact(h2 ag λav u=>G av (by rw[hs];simp[u])).symm
theorem Dr.QN(c:kT P nt aA l am)(d:Dr P W nt aA l am ac D J Q q m I rest V A B f s S M Z)(o:O∈rest)(hd:∀j,kE aA O j->In m j)(p:l[O]?=some t):∀z∈t.ke,f.get .ai8 z=A.get .ai8 z:=by intro z r;refine d.sQ z λk u a b=>?_;have⟨y,v,x⟩:=b;exact a (sP d.nP O hd k (((px ((zi c d.gj).2 k u O o) v p).2.2.1 z x).2 r))
end
theorem El{o:Oper}(c:pf P nt aA o=some t){r:AV×ai}(a:aH t.op A B=some r):bK P nt o=some t.op:=by
 have⟨_,_,_,b,_⟩:=zd c;rw[b]at a;rw[b];split at a;·trivial
 rename_i d;rw[an d];cases i:bK P nt o with|none=>simp_all[aH]|some q=>rfl
theorem Bq{o:Oper}{op:bJ}{b:Frame}{a:Act}{k:List Item}{cs:List Frame}{w:World}{c:Value}(j:aA[n]?=some o)(q:bK P nt o=some op)(hg:Region.wanted o (yielded aA a.tmps)=true)(m:(execOp a.eval o).run P w=.ok (.value c) M\/((execOp a.eval o).run P w=.ok .skip M/\c=undef)):Steps P (lone (b.atR a (.inRegion aA (n::I)::k)) cs w) (lone (b.atR (a.put o.dst c) (.inRegion aA I::k)) cs M):=by
 have p:(b.atR a (.inRegion aA (n::I)::k)).finish c=b.atR (a.put o.dst c) (.inRegion aA I::k):=by rw[Frame.finish_atR,j];rfl
 have d:=stepGR_op (P:=P) (b:=b) (a:=a) (k:=k) (cs:=cs) (w:=w) (rest:=I) j hg;rw[Oper.semAt_eq _ _ _ (ze q)]at d;refine .one (step_lone_go ?_);rw[d,<-p];rcases m with r|⟨r,rfl⟩;all_goals grind[Bj,D6]
theorem I0{o:Oper}{i:Nat}{b:Frame}{a:Act}{k:List Item}{cs:List Frame}{w:World}(c:aA[i]?=some o)(hg:Region.wanted o (yielded aA a.tmps)=false):Steps P (lone (b.atR a (.inRegion aA (i::I)::k)) cs w) (lone (b.atR (a.put o.dst undef) (.inRegion aA I::k)) cs w):=by have dg:=stepR_op_skip (P:=P) (b:=b) (a:=a) (k:=k) (cs:=cs) (w:=w) (ops:=aA) (i:=i) (rest:=I) (by simp[c,hg]);rw[c]at dg;exact .one dg
theorem I1(c:gP S nt A Z){o:Oper}(b:pf P nt aA o=some t)(a:ka A t.guard=true):Region.wanted o (yielded aA Z)=d8 A t.guard:=IK (a:=⟨Z,[]⟩) (fr:=⟨A,[],none⟩) (ro:=none) ⟨c,trivial,trivial⟩ b a
theorem zk(a:Act)(d:Option Tmp)(c:Value):(a.put d c).defers=a.defers:=by cases d<;>rfl
theorem gP.put{a:Act}(i:gP S nt A a.tmps){c:Value}(b:VR S Y c)(d:Option Tmp):gP S nt (aQ A (d.map ah.cV) Y) (a.put d c).tmps:=by cases d with|none=>exact i|some d=>exact i.set b
end
section
variable[Ov]
section
variable{ac:Nat->aX}{d:az AV}{tmps:Array Value}
theorem Dr.mark(hR:kT F V g X I)(av:Dr F W V g X I ac D s Q o m p k u A B d pn' b w' tmps)(gZ:O∈p)(Y:O<g.size)(R:∀j,kE g O j->In m j)(T:b9 b S)(v:∀t,(eR X O t->q.get .ai8 t=A.get .ai8 t)/\(¬eR X O t->q.get .ai8 t=d.get .ai8 t))(z:∀j,j∈J↔j∈pn'/\¬Mk X A O j)(C:∀j,Mk X A O j->S j≠none)(E:∀j∈J,S j=none)(hE:gP S V q Z)(hI:bm F W S (B.eI J) M):Dr F W V g X I ac D s Q o (m.setIfInBounds O true) p k u A B q J S M Z:=by
 have r:∀j,In (m.setIfInBounds O true) j↔j=O\/In m j:=Eh (by rw[av.size];exact Y);have y:∀j,¬In (m.setIfInBounds O true) j->j≠O/\¬In m j:=λj hj=>⟨λaw=>hj ((r j).2 (.inl aw)),λaw=>hj ((r j).2 (.inr aw))⟩;refine⟨av.gj,by rw[Array.size_setIfInBounds];exact av.size,?_,?_,λag a hc=>(r ag).2 (.inr (av.Ek ag a hc)),av.run,av.rH,?_,?_,?_,av.ke,?_,av.kD,λag a G=>av.bU ag a (y ag G).2,?_,hE,hI⟩
 .intro j hj;rcases(r j).1 hj with aw|aw;·rw[aw];exact gZ
  exact av.sub j aw
 .intro j hj ag a;rcases(r j).1 hj with aw|aw;·rw[aw]at a;exact(r ag).2 (.inr (R ag a))
  exact(r ag).2 (.inr (av.nP j aw ag a))
 .intro t ht;by_cases hd:eR X O t;·exact(v t).1 hd
  rw[(v t).2 hd];refine av.sQ t λag a G=>?_;by_cases aw:ag=O;·rw[aw];exact hd
  exact ht ag a λh=>(r ag).1 h|>.elim aw G
 .intro t ag a G N;have⟨h1,h2⟩:=y ag G;rw[(v t).2 λhd=>h1 (eR.inj hR.eB (nQ av.gj a) (nQ av.gj gZ) N hd)];exact av.zh t ag a h2 N
 .intro j;rw[z,av.py];constructor;·rintro⟨⟨ag,a,h1,h2⟩,h3⟩;exact⟨ag,a,λh=>(r ag).1 h|>.elim (λaw=>h3 (aw▸h2)) h1,h2⟩
  rintro⟨ag,a,h1,h2⟩;have⟨g1,g2⟩:=y ag h1;exact⟨⟨ag,a,g2,h2⟩,λh3=>g1 (av.ke ag O j a gZ h2 h3)⟩
 .intro ag j a hm;have⟨h1,h2⟩:=av.qv ag j a hm;refine⟨h1,?_⟩;rcases h2 with h2|h2
  .by_cases hi:Mk X A O j;·exact .inr (C j hi)
   exact .inl ((z j).2 ⟨h2,hi⟩)
  right;intro aw;cases hr:b j with|none=>exact h2 hr|some x=>rw[(T _ _ hr).1]at aw;cases aw
 intro j hj;exact⟨E j hj,(av.dJ j ((z j).1 hj).1).2⟩
theorem kC.wV{n:kC}{k:Value}(h:VR S (n.of N) k):S N≠none:=by
 cases n with
 |aD=>obtain⟨b,x,m,_⟩:=VR.l7 h;grind
 |slice a b m=>
  simp only[kC.of]at h;cases k with
  |slice ad g j=>cases ad with|none=>trivial|some ad=>grind[VR]
  |_=>trivial
 |map=>obtain⟨b,m,_⟩:=VR.po h;grind
theorem kf(H:ai)(c:List ah)(j:ah):(H.eI c).get j=if j∈c then .none else H.get j:=ai.uk c H j
theorem Dr.QO(hR:kT F V g X I)(ds:Dr F W V g X I ac D s Q q m p k u A B d J S M tmps)(gZ:O∈p)(hi:¬In m O)(R:∀j,kE g O j->In m j){b:Frame}{a:Act}(ha:a.tmps=tmps)(is:List Nat)(dv:List Item)(cs:List Frame):∃(C:aP)(w':World)(b7:Act)(a1:az AV)(Z:List ah),b9 S C/\dk W M w'/\b7.defers=a.defers/\Steps F (lone (b.atR a (.inRegion g (O::is)::dv)) cs M) (lone (b.atR b7 (.inRegion g is::dv)) cs w')/\Dr F W V g X I ac D s Q q (m.setIfInBounds O true) p k u A B a1 Z C w' b7.tmps:=by
 subst ha;have⟨x,dm,bY,ex,hx,hs,h1,h2,G⟩:=ds.bU O gZ hi;have⟨o,ax,bv⟩:=hR.op hx;have⟨xd,_⟩:=zd bv;have b':O<g.size:=by
  rcases aic O g.size with dz|dz;·exact dz
  rw[aiq dz]at ax;cases ax
 have ca:=ds.Ip hR hi R hx hs h1 h2;have c8:ka ex x.guard=true:=by
  rcases G with⟨_,h,_⟩|⟨h,_⟩;·exact h
  exact Ea h
 have cd:Region.wanted o (yielded g a.tmps)=d8 ex x.guard:=by rw[I1 ds.E bv (by rw[IX ca];exact c8)];exact Ei ca
 have a2:∀H',aH x.op d H'=aH x.op ex H':=λH'=>Ee (λd1 hp=>ca d1 (wU hp)) H';have a6:∀{v:AV},(∀t,x.dst=some t->A.get .ai8 t=v)->∀t,(eR X O t->(aQ d x.dst v).get .ai8 t=A.get .ai8 t)/\(¬eR X O t->(aQ d x.dst v).get .ai8 t=d.get .ai8 t):=by
  intro v hv t;rw[qq];refine⟨λ⟨y,hy,dy⟩=>?_,λhn=>?_⟩;·rw[hx]at hy;injection hy with hy;subst hy;rw[aF dy,hv t dy]
  rw[an λdx=>hn ⟨x,hx,dx⟩]
 have aw:∀j,Mk X A O j->x.op.kP=true/\∃t,x.dst=some t/\gX (A.get .ai8 t)=some j:=by rintro j⟨y,t,hy,g1,g2,g3⟩;rw[hx]at hy;injection hy with hy;subst hy;exact⟨g1,t,g2,g3⟩
 have ag:∀j∈J,j.ap<B.next.ap:=λj hj=>by have⟨k',cf,_,hm⟩:=(ds.py j).1 hj;exact(ds.qv k' j cf hm).1
 have a8:∀j∈J,∀dv,j∉((B.eI J).get dv).aK:=λj hj dv hk=>by
  rw[kf]at hk;split at hk;·cases hk
  exact(ds.dJ j hj).2.2 dv hk
 have av:(B.eI J).next=B.next:=ai.iL _ _;have ba:∀{v:AV},x.op.kP=false->aH x.op d (B.eI J)=some (v,B.eI J)->(∀t,x.dst=some t->A.get .ai8 t=v)->d8 ex x.guard=true->∃(C:aP)(w':World)(b7:Act)(a1:az AV)(Z:List ah),b9 S C/\dk W M w'/\b7.defers=a.defers/\Steps F (lone (b.atR a (.inRegion g (O::is)::dv)) cs M) (lone (b.atR b7 (.inRegion g is::dv)) cs w')/\Dr F W V g X I ac D s Q q (m.setIfInBounds O true) p k u A B a1 Z C w' b7.tmps:=by intro v hm N hv hg;have cn:=ds.fI.i9 (hl:=λ_=>False) (dd:=λj=>j∈J) (λ_ h=>h.elim) (λj hj=>⟨by rw[kf,aF hj],(ds.dJ j hj).1,by rw[av];exact ag j hj,a8 j hj⟩) rfl (λ_=>.inl rfl) (λ_ h=>h.elim);have T:=El bv N;have⟨d0,w',a',C,z,b0,ay,hK⟩:=zb (dl.mk ds.E cn) T N;have⟨u1,u2⟩:=ds.fI.Eg (hl:=λ_=>False) (λ_ h=>h.elim) z ay hK (H2:=B.eI J) rfl (λ_ h=>h.elim) (λ_ _=>rfl);refine⟨C,w',a.put o.dst d0,aQ d x.dst v,J,z,u2,zk ..,Bq ax T (by rw[cd];exact hg) a',?_⟩;refine ds.mark hR gZ b' R z (a6 hv) (λj=>⟨λhj=>⟨hj,λh=>by rw[hm]at aw;have:=(aw j h).1;cases this⟩,λhj=>hj.1⟩) (λj h=>by rw[hm]at aw;have:=(aw j h).1;cases this) (λj hj=>(ay.dJ j (.inr hj)).2) ?_ u1;rw[xd];exact(ds.E.mono z).put b0 o.dst
 rcases G with⟨hg,_,hv⟩|⟨hg,v,hv,G⟩
 .refine⟨S,M,a.put o.dst undef,aQ d x.dst .ai8,J,b9.refl S,dk.refl W M,zk ..,I0 ax (by rw[cd];exact hg),?_⟩;have cv:∀j,¬Mk X A O j:=λj h=>by have⟨_,t,g1,g2⟩:=aw j h;rw[hv t g1]at g2;simp[AV.ai8,gX]at g2
  refine ds.mark hR gZ b' R (b9.refl S) (a6 hv) (λj=>⟨λhj=>⟨hj,cv j⟩,λhj=>hj.1⟩) (λj h=>absurd h (cv j)) (λj hj=>(ds.dJ j hj).1) ?_ ds.fI;rw[xd];exact ds.E.put (VR.ai8 S) o.dst
 rcases G with⟨hm,N⟩|⟨hr,c9,N⟩|⟨hm,nv,dq,Y,hy,rfl,cy,N⟩;·exact ba (v:=v) hm (by rw[a2];exact N (B.eI J)) hv hg
 .refine ba (v:=v) (wT hr).2.1 ?_ hv hg;rw[a2];refine N (B.eI J) λj hj=>?_;rw[kf,an];intro c';have⟨k',cf,hn,cE⟩:=(ds.py j).1 c';exact hn (sP ds.nP O R k' ((c9 j hj).2 k' cf cE))
 have⟨x',b3,cR⟩:=sR hR (nQ ds.gj gZ);rw[hx]at b3;injection b3 with b3;subst b3;obtain⟨t0,cp⟩:∃t,x.dst=some t:=by cases hd:x.dst with|some t=>exact⟨t,rfl⟩|none=>simp[rB,hd,(wS hm).1,(wS hm).2.2]at cR
 have bb:gX (A.get .ai8 t0)=some Y:=by rw[hv t0 cp];exact kC.name nv Y
 have cx:Mk X A O Y:=⟨x,t0,hx,hm,cp,bb⟩;have bc:∀j,Mk X A O j->j=Y:=by intro j h;have⟨_,t,g1,g2⟩:=aw j h;rw[cp]at g1;injection g1 with g1;subst g1;rw[bb]at g2;injection g2 with g2;exact g2.symm
 have b4:Y∈J:=(ds.py Y).2 ⟨O,gZ,hi,cx⟩;have r:∀j,j∈J.filter (λj=>decide (j≠Y))↔j∈J/\j≠Y:=λj=>by simp
 generalize dr:J.filter (λj=>decide (j≠Y))=Z at r;have cn:=ds.fI.i9 (hl:=λ_=>False) (dd:=λj=>j∈Z) (λ_ h=>h.elim) (λj hj=>⟨by rw[kf,aF ((r j).1 hj).1],(ds.dJ j ((r j).1 hj).1).1,by rw[av];exact ag j ((r j).1 hj).1,a8 j ((r j).1 hj).1⟩) rfl (λ_=>.inl rfl) (λ_ h=>h.elim);have b6:∀H':ai,aH x.op d H'=some (nv.of H'.next,H'.new dq):=λH'=>by rw[a2];exact N H'
 have T:=El bv (b6 B);obtain⟨d0,w',a',C,z,b0,ay,hK⟩:=QD cn ds.E T hy b6 (ds.dJ Y b4).1 (by rw[av];exact ag Y b4) (by
  rintro(h|h|h);·exact(ds.dJ Y b4).2.1 h
  .exact h
  exact((r Y).1 h).2 rfl) (a8 Y b4);obtain⟨u1,u2⟩:=ds.fI.Eg (hl:=λ_=>False) (λ_ h=>h.elim) z ay hK (H2:=B.eI Z) (by rw[ai.iL,ai.eK,ai.iL]) (λ_ h=>h.elim) (λj _=>by
  rw[kf,ai.aG,kf];by_cases dx:j=Y;·subst dx;rw[an λh=>((r j).1 h).2 rfl,aF rfl];exact cy
  by_cases e':j∈J;·rw[aF ((r j).2 ⟨e',dx⟩),an dx,aF e']
  rw[an λh=>e' ((r j).1 h).1,an dx,an e']);refine⟨C,w',a.put o.dst d0,aQ d x.dst (nv.of Y),Z,z,u2,zk ..,Bq ax T (by rw[cd];exact hg) a',?_⟩;refine ds.mark hR gZ b' R z (a6 hv) (λj=>?_) (λj h=>?_) (λj hj=>(ay.dJ j (.inr hj)).2) ?_ u1;·rw[r];exact⟨λh=>⟨h.1,λhm=>h.2 (bc j hm)⟩,λh=>⟨h.1,λdx=>h.2 (dx▸cx)⟩⟩
 .rw[bc j h];exact kC.wV b0
 rw[xd];exact(ds.E.mono z).put b0 o.dst
end
section
variable{P:Program}{l:List bD}
variable{ac:Nat->aX}{w:World}{tmps:Array Value}
theorem Mk.Em(h:∀t,eR l n t->q.get .ai8 t=A.get .ai8 t):Mk l q n N↔Mk l A n N:=by
 constructor;·rintro⟨x,t,a,h1,h2,h3⟩;exact⟨x,t,a,h1,h2,by rw[<-h t ⟨x,a,h2⟩];exact h3⟩
 rintro⟨x,t,a,h1,h2,h3⟩;exact⟨x,t,a,h1,h2,by rw[h t ⟨x,a,h2⟩];exact h3⟩
theorem QP(j:kT P V g l k){rest:List Nat}(m:p.reverse++O::rest=k){h:List Nat}(x:l[n]?=some t)(y:t.op.iZ=true)(hs:p=h++n::I)(h1:∀E,(∃F∈I,eR l F E)->q.get .ai8 E=A.get .ai8 E)(h2:∀E,(∀F∈I,¬eR l F E)->q.get .ai8 E=o.get .ai8 E)(h0:∀E,(∀F∈O::p,¬eR l F E)->A.get .ai8 E=o.get .ai8 E):∀E∈t.ke,A.get .ai8 E=q.get .ai8 E:=by
 intro E B;by_cases r:∃F∈I,eR l F E;·grind
 rw[h2 E λF a b=>r ⟨F,a,b⟩];refine h0 E λF a b=>?_;have⟨z,s,u⟩:=b;have gZ:n∈p:=by rw[hs];simp
 have after:rA l (Region.before g) n F=true->False:=λeB=>by have:=((px eB x s).2.2.2.1 E u B).2;rw[y]at this;cases this
 rcases ac2.1 a with rfl|a;·exact after ((zi j m).2 n gZ F (acj ..))
 rw[hs,ac6,ac2]at a;rcases a with a|rfl|a;·grind[IZ]
 .have⟨D,C,v⟩:=sR j (nQ m gZ);simp_all[rB,wT]
 exact r ⟨F,a,z,s,u⟩
theorem Dr.I3(hR:kT P V g l k)(d1:Dr P W V g l k ac D s Q o m I (O::p) z A H' q J b w tmps)(hx:l[O]?=some t)(b4:t.op.jN=true)(ba:∀j,kE g O j->In m j){v:AV}(cp:b9 b S)(ha:∀j dz,dz∈I->¬fu (Region.before g) O dz->Mk l A dz j->B.get j=H'.get j)(hI:bm P W S (B.eI J) M)(a1:∀j∈J,S j=none/\∀dz,j∉(B.get dz).aK)(cv:∀j dz,dz∈I->Mk l A dz j->j.ap<B.next.ap)(cR:∀i∈I,¬In m i->∀y,l[i]?=some y->y.op.iZ=true->d8 (aQ A t.dst v) y.guard=true->∀dx,y.dst=some dx->(∀j,B.get j=H'.get j)\/∃H1,aH y.op (aQ A t.dst v) B=some ((aQ A t.dst v).get .ai8 dx,H1))(hE:gP S V (aQ q t.dst v) Z)(cx:Go.al.aA False da ac u (ph l (Region.before g) (O::I) p) ⟨aQ A t.dst v,s,Q⟩ B D):Dr P W V g l k ac D s Q o (m.setIfInBounds O true) (O::I) p u (aQ A t.dst v) B (aQ q t.dst v) J S M Z:=by
 have⟨d6,b6,dv⟩:=hR.op hx;have c8:O<g.size:=by
  rcases aic O g.size with d2|d2;·exact d2
  rw[aiq d2]at b6;cases b6
 have r:∀j,In (m.setIfInBounds O true) j↔j=O\/In m j:=Eh (by rw[d1.size];exact c8);have aw:∀j,¬In (m.setIfInBounds O true) j->j≠O/\¬In m j:=λj hj=>⟨λd0=>hj ((r j).2 (.inl d0)),λd0=>hj ((r j).2 (.inr d0))⟩;have b7:O∈O::p:=acj .. ;have a':O∉I:=zj hR d1.gj b7;have b':∀dx,eR l O dx↔t.dst=some dx:=λdx=>⟨λ⟨y,C,dy⟩=>by rw[hx]at C;injection C with C;subst C;exact dy,λh=>⟨t,hx,h⟩⟩;have T:∀i dx,i∈I->eR l i dx->t.dst≠some dx:=λi dx hi hd d0=>a' (eR.inj hR.eB (nQ d1.gj hi) (uv d1.gj b7) hd ((b' dx).2 d0)▸hi);have E:∀dx,t.dst≠some dx->(aQ A t.dst v).get .ai8 dx=A.get .ai8 dx:=λdx h=>by rw[qq,an h]
 have bb:∀dx,t.dst≠some dx->(aQ q t.dst v).get .ai8 dx=q.get .ai8 dx:=λdx h=>by rw[qq,an h]
 have F:∀i j,i∈O::I->(Mk l (aQ A t.dst v) i j↔i∈I/\Mk l A i j):=by
  intro i j hi;rcases ac2.1 hi with d0|d0;·subst d0;refine⟨λh=>?_,λh=>absurd h.1 a'⟩;have⟨y,dx,C,Y,_⟩:=h;rw[hx]at C;injection C with C;subst C;rw[(QL b4).1]at Y;cases Y
  rw[Mk.Em λdx N=>E dx (T i dx d0 N)];exact⟨λh=>⟨d0,h⟩,λh=>h.2⟩
 have h0:∀dx,(∀dz∈O::I,¬eR l dz dx)->(aQ A t.dst v).get .ai8 dx=o.get .ai8 dx:=by intro dx N;rw[E dx λd0=>N O (acj ..) ((b' dx).2 d0)];exact d1.rH dx λdz a=>N dz (ab8 _ a)
 refine⟨by rw[<-d1.gj];simp,by rw[Array.size_setIfInBounds];exact d1.size,?_,?_,?_,cx,h0,?_,?_,?_,?_,?_,?_,?_,?_,hE,hI⟩
 .intro j hj;rcases(r j).1 hj with d0|d0;·rw[d0];exact acj ..
  exact ab8 _ (d1.sub j d0)
 .intro j hj dz a;rcases(r j).1 hj with d0|d0;·rw[d0]at a;exact(r dz).2 (.inr (ba dz a))
  exact(r dz).2 (.inr (d1.nP j d0 dz a))
 .intro j hj hc;rcases ac2.1 hj with d0|d0;·exact(r j).2 (.inl d0)
  exact(r j).2 (.inr (d1.Ek j d0 hc))
 .intro dx N;by_cases d0:t.dst=some dx;·rw[qq,qq,aF d0,aF d0]
  rw[bb dx d0,E dx d0];refine d1.sQ dx λdz a hn=>N dz (ab8 _ a) λh=>?_;rcases(r dz).1 h with e'|e';·exact a' (e'▸a)
  exact hn e'
 .intro dx dz a hn ag;have⟨X,R⟩:=aw dz hn;have ca:dz∈I:=(ac2.1 a).resolve_left X;rw[bb dx (T dz dx ca ag)];exact d1.zh dx dz ca R ag
 .intro j;rw[d1.py];constructor;·rintro⟨dz,a,X,R⟩;exact⟨dz,ab8 _ a,λh=>(r dz).1 h|>.elim (λd0=>a' (d0▸a)) X,(F dz j (ab8 _ a)).2 ⟨a,R⟩⟩
  rintro⟨dz,a,X,R⟩;have⟨g3,g4⟩:=(F dz j a).1 R;exact⟨dz,g3,(aw dz X).2,g4⟩
 .intro i i' j hi c9 X R;have⟨a6,a8⟩:=(F i j hi).1 X;have⟨b1,b2⟩:=(F i' j c9).1 R;exact d1.ke i i' j a6 b1 a8 b2
 .intro i j hi X;have⟨a6,a8⟩:=(F i j hi).1 X;refine⟨cv j i a6 a8,?_⟩;rcases(d1.qv i j a6 a8).2 with d3|d3;·exact .inl d3
  right;intro d0;cases hr:b j with|none=>exact d3 hr|some d7=>rw[(cp _ _ hr).1]at d0;cases d0
 .intro i j hi X R;have⟨a6,a8⟩:=(F i j hi).1 X;rw[ha j i a6 (R O (acj ..) ⟨t,hx,b4⟩) a8];exact d1.kD i j a6 a8 λdz a=>R dz (ab8 _ a)
 .intro i hi hn;have⟨X,R⟩:=aw i hn;have gZ:i∈I:=(ac2.1 hi).resolve_left X;have⟨y,cy,bY,ex,C,hs,h1,h2,G⟩:=d1.bU i gZ R;have cd:∀dx,(∃dz∈bY,eR l dz dx)->ex.get .ai8 dx=(aQ A t.dst v).get .ai8 dx:=by rintro dx⟨dz,a,ag⟩;rw[E dx (T dz dx (by rw[hs];simp[a]) ag)];exact h1 dx ⟨dz,a,ag⟩
  have ax:∀dx,y.dst=some dx->(aQ A t.dst v).get .ai8 dx=A.get .ai8 dx:=λdx N=>E dx (T i dx gZ ⟨y,C,N⟩);refine⟨y,O::cy,bY,ex,C,by rw[hs];rfl,cd,h2,?_⟩;rcases G with⟨hg,c',hv⟩|⟨hg,d4,hv,G⟩;·exact .inl ⟨hg,c',λdx N=>by rw[ax dx N];exact hv dx N⟩
  refine .inr ⟨hg,d4,λdx N=>by rw[ax dx N];exact hv dx N,?_⟩;rcases G with⟨Y,av⟩|⟨hr,b0,av⟩|⟨Y,nv,dq,j0,dm,cf,cE,av⟩;·exact .inl ⟨Y,av⟩
  .have cn:=QP hR d1.gj C hr hs cd h2 h0;have⟨y',x,ay⟩:=sR hR (nQ d1.gj gZ);rw[C]at x;injection x with x;subst x;obtain⟨t0,b3⟩:∃dx,y.dst=some dx:=by cases hd:y.dst with|some dx=>exact⟨dx,rfl⟩|none=>simp[rB,hd,(wT hr).1,(wT hr).2.2]at ay
   right;left;have bc:∀j,(∀dz∈I,Mk l A dz j->fu (Region.before g) i dz)->∀dz∈O::I,Mk l (aQ A t.dst v) dz j->fu (Region.before g) i dz:=λj h dz a Y=>by have⟨a6,a8⟩:=(F dz j a).1 Y;exact h dz a6 a8
   rcases cR i gZ R y C hr (by rw[Ei cn];exact hg) t0 b3 with a2|⟨H1,bv⟩;·exact⟨hr,λj hj=>⟨by rw[a2];exact(b0 j hj).1,bc j (b0 j hj).2⟩,λds dr=>av ds λj hj=>by rw[dr j hj,a2]⟩
   rw[ax t0 b3,hv t0 b3,Ee (λd5 hp=>cn d5 (wU hp))]at bv;have⟨_,q2,q3⟩:=IQ hr bv;exact⟨hr,λj hj=>⟨q2 j hj,bc j (b0 j hj).2⟩,q3⟩
  right;right;refine⟨Y,nv,dq,j0,dm,cf,?_,av⟩;rw[ha j0 i gZ (λhA=>R (sP d1.nP O ba i hA)) ?_];·exact cE
  have⟨y',x,ay⟩:=sR hR (nQ d1.gj gZ);rw[C]at x;injection x with x;subst x;cases hd:y.dst with|some dx=>exact⟨y,dx,C,Y,hd,by rw[hv dx hd,cf];exact kC.name nv j0⟩|none=>simp[rB,hd,(wS Y).1,(wS Y).2.2]at ay
 intro j hj;exact⟨(a1 j hj).1,(d1.dJ j hj).2.1,(a1 j hj).2⟩
theorem Dr.QQ(hR:kT P u g l p)(ca:∀ea,ea<V->rF P ac ea)(d3:Dr P W u g l p ac D s Q o m I (O::rest) V A B q J S w tmps)(cR:Ch l O)(Z:∀j,kE g O j->In m j){b:Frame}{a:Act}(hat:a.tmps=tmps)(is:List Nat)(k:List Item)(cs:List Frame):∃(M:aP)(w':World)(b0:Act)(n':Nat)(env':az AV)(H':ai)(a6:az AV)(b3:List ah),n'<=V/\b9 S M/\dk W w w'/\b0.defers=a.defers/\Steps P (lone (b.atR a (.inRegion g (O::is)::k)) cs w) (lone (b.atR b0 (.inRegion g is::k)) cs w')/\Dr P W u g l p ac D s Q o (m.setIfInBounds O true) (O::I) rest n' env' H' a6 b3 M w' b0.tmps:=by
 subst hat;have⟨x,hx,b4⟩:=cR;have⟨d4,a1,b6⟩:=hR.op hx;have⟨xd,_,_,xo,_⟩:=zd b6;have cn:O∈O::rest:=acj .. ;have ay:=d3.QN hR cn Z hx;have X:ka A x.guard=true->Region.wanted d4 (yielded g a.tmps)=d8 A x.guard:=λb7=>by rw[I1 d3.E b6 (by rw[IX ay];exact b7)];exact Ei ay
 have r:=d3.run;simp only[ph,hx]at r;cases V with
 |zero=>simp only[Go.al.aA]at r
 |succ V=>
  have ba:(B.eI J).next=B.next:=ai.iL _ _;have cd:∀j∈J,j.ap<B.next.ap:=λj hj=>by have⟨k',N,_,hm⟩:=(d3.py j).1 hj;exact(d3.qv k' j N hm).1
  simp only[Go.al.aA,DH,b4,Bool.true_or,bg]at r;cases hg:d8 A x.guard with
  |false=>
   rw[hg]at r X;simp only[abH,bF]at r;split at r;case isFalse=>exact r.elim
   rename_i b7;have X:=X b7;refine⟨S,w,a.put d4.dst undef,V,aQ A x.dst .ai8,B,aQ q x.dst .ai8,J,Nat.le_succ V,b9.refl S,dk.refl W w,zk ..,I0 a1 X,?_⟩;exact d3.I3 hR hx b4 Z (b9.refl S) (λ_ _ _ _ _=>rfl) d3.fI (λj hj=>⟨(d3.dJ j hj).1,(d3.dJ j hj).2.2⟩) (λj k hk hm=>(d3.qv k j hk hm).1) (λ_ _ _ _ _ _ _ _ _=>.inl λ_=>rfl) (by rw[xd];exact d3.E.put (VR.ai8 S) d4.dst) r
  |true=>
   have X:=X (Ea hg);rw[hg]at r X;simp only[bg]at r;generalize cx:yS l (Region.before g) I O=F at r;have ag:=Bp A F B;have a8:∀j,j∈iz A F↔∃k∈I,¬fu (Region.before g) O k/\Mk l A k j:=λj=>by rw[<-cx];exact IV
   have bc:∀j∈J,j∈iz A F:=λj hj=>by have⟨k',N,hn,hm⟩:=(d3.py j).1 hj;exact(a8 j).2 ⟨k',N,λhA=>hn (sP d3.nP O Z k' hA),hm⟩
   have ax:∀i,(i∈iz A F/\i∉J)->((B.eI J).get i).kD:=by rintro i⟨h1,h2⟩;have⟨k',N,hn,hm⟩:=(a8 i).1 h1;rw[kf,an h2];exact d3.kD k' i N hm λc' c8⟨z,hz,c9⟩hA=>hn (((px ((zi hR d3.gj).2 c' c8 O cn) hz hx).2.2.2.2 c9).2 k' hA)
   have b':=d3.fI.i9 (hl:=λi=>i∈iz A F/\i∉J) (dd:=λj=>j∈J) ax (λj hj=>⟨by rw[kf,aF hj],(d3.dJ j hj).1,by rw[ba];exact cd j hj,λk hk=>by
    rw[kf]at hk;split at hk;·cases hk
    exact(d3.dJ j hj).2.2 k hk⟩) (H2:=(dF A B F).1) (by rw[(ag .xH).2.1,ba]) (λj=>by
    rw[(ag j).1,kf];by_cases d5:j∈iz A F;·rw[aF d5];exact .inr rfl
    rw[an d5,an λh=>d5 (bc j h)];exact .inl rfl) (λi hi=>by rw[(ag i).1,aF hi.1]);have aq:∀{v:AV}{H1:ai}{cv:Value}{w':World}{M:aP},b9 S M->VR M v cv->bm P (W.i9 S (λi=>i∈iz A F/\i∉J) λj=>j∈J) M H1 w'->dk (W.i9 S (λi=>i∈iz A F/\i∉J) λj=>j∈J) w w'->Steps P (lone (b.atR a (.inRegion g (O::is)::k)) cs w) (lone (b.atR (a.put d4.dst cv) (.inRegion g is::k)) cs w')->(if dQ (aQ A x.dst v) (dj H1 (dF A B F).2) (iZ l (Region.before g) I O)=true then Go.al.aA False da ac V (ph l (Region.before g) (O::I) rest) ⟨aQ A x.dst v,s,Q⟩ (dj H1 (dF A B F).2) D else False)->∃(M:aP)(w':World)(b0:Act)(n':Nat)(env':az AV)(H':ai)(a6:az AV)(b3:List ah),n'<=V+1/\b9 S M/\dk W w w'/\b0.defers=a.defers/\Steps P (lone (b.atR a (.inRegion g (O::is)::k)) cs w) (lone (b.atR b0 (.inRegion g is::k)) cs w')/\Dr P W u g l p ac D s Q o (m.setIfInBounds O true) (O::I) rest n' env' H' a6 b3 M w' b0.tmps:=by
    intro v H1 cv w' M G hv R hK dg bb;split at bb;case isFalse=>exact bb.elim
    rename_i cp;have a2:∀j,(dj H1 (dF A B F).2).get j=if j∈iz A F then B.get j else H1.get j:=λj=>((ag j).2.2 H1).1;have a':(dj H1 (dF A B F).2).next=H1.next:=((ag .xH).2.2 H1).2;generalize dj H1 (dF A B F).2=H2 at bb cp a2 a';obtain⟨u1,u2⟩:=d3.fI.Eg ax G R hK (H2:=H2.eI J) (by rw[ai.iL];exact a') (λi hi=>by rw[kf,kf,an hi.2,an hi.2,a2,aF hi.1]) (λi hi=>by
     rw[kf];by_cases d5:i∈J;·rw[aF d5];exact(R.un i (.inr (.inr d5))).1.symm
     rw[an d5,a2,an λh=>hi ⟨h,d5⟩]);refine⟨M,w',a.put d4.dst cv,V,aQ A x.dst v,H2,aQ q x.dst v,J,Nat.le_succ V,G,u2,zk ..,dg,?_⟩;refine d3.I3 hR hx b4 Z (v:=v) G (λj k' N hn hm=>by rw[a2,aF ((a8 j).2 ⟨k',N,hn,hm⟩)]) u1 ?_ ?_ ?_ (by rw[xd];exact(d3.E.mono G).put hv d4.dst) bb
    .intro j hj;refine⟨(R.dJ j (.inr hj)).2,λk' N=>?_⟩;rw[a2]at N;split at N;·exact(d3.dJ j hj).2.2 k' N
     exact(R.un j (.inr (.inr hj))).2.2 k' N
    .intro j k' N hm;rw[a'];by_cases d5:j∈iz A F
     .by_cases e':j∈J;·exact(R.un j (.inr (.inr e'))).2.1
      exact(R.un j (.inr (.inl ⟨d5,e'⟩))).2.1
     have hl:S j≠none:=((d3.qv k' j N hm).2).resolve_left λh=>d5 (bc j h);rcases aic j.ap H1.next.ap with d7|d7;·exact d7
     exfalso;cases hr:S j with|none=>exact hl hr|some z=>have:=(R.du j d7).2;rw[(G _ _ hr).1]at this;cases this
    intro i hi hn y hy hr dm t ht;right;have hm:=QM (l:=l) (anc:=Region.before g) (i:=O) hi hy hr (λhA=>hn (sP d3.nP O Z i hA)) ht;have⟨H3,h3⟩:=IW cp _ hm dm;exact⟨H3,h3⟩
   split at r
   .rename_i d' args C;have Y:bK P u d4=some (.call d' args)/\wy d4.op=true:=by
     rw[xo]at C;split at C;·cases C
     rename_i hn;rw[C]at hn;simp only[bJ.yR,aiU,ah3,Bool.not_eq_false]at hn;refine⟨?_,hn⟩;cases hc:bK P u d4 with|none=>rw[hc]at C;cases C|some d7=>rw[hc]at C;simp only[aii]at C;rw[C]
    have⟨cc,eb,ho,dr,h1,h2⟩:=IL Y.2 Y.1;have aw:=stepGR_op (P:=P) (b:=b) (a:=a) (k:=k) (cs:=cs) (w:=w) (rest:=is) a1 X;rw[Oper.semAt_eq _ _ _ (ze Y.1)]at aw;have cy:execOp a.eval d4=mR (a.eval eb) (cc.args.map a.eval):=by simp only[execOp,ho,resolve,dr,mR]
    rw[cy]at aw;have hf:gv A d'=gv q d':=mS λd6 hp=>(ay d6 (wU (by rw[C];simp[bJ.co,hp]))).symm;have ds:args.map (gv A)=args.map (gv q):=Bo λd6 hp=>(ay d6 (wU (by rw[C];simp only[bJ.co,ac6];exact .inr hp))).symm;have cf:be S (args.map (gv q)) (cc.args.map a.eval).toList:=by rw[Array.toList_map];exact wF d3.E d3.fI h2
    obtain⟨v,H1,c',w',dz,d0,w1,hK,⟨M,G,hv,R,T⟩,hb,hs⟩:=ca V (Nat.lt_succ_self V) r (by rw[hf];exact wE h1 d3.E d3.fI) (by rw[ds];exact cf) b' (b.atR a (.inRegion g (O::is)::k)) cs (by simp[qk,Frame.atR]);have cE:(b.atR a (.inRegion g (O::is)::k)).finish c'=b.atR (a.put d4.dst c') (.inRegion g is::k):=by rw[Frame.finish_atR,a1];rfl
    refine aq G hv R T ?_ hK;rw[<-cE];exact .head (step_lone_go (by rw[aw];exact hb)) hs
   .rename_i it C;have av:bK P u d4=some (.j6 it):=by
     rw[xo]at C;split at C;·cases C
     cases hc:bK P u d4 with|none=>rw[hc]at C;cases C|some d7=>rw[hc]at C;simp only[aii]at C;rw[C]
    split at r;·rename_i dy d1 hn;rw[mS (env':=q) (x:=it) λd6 hp=>(ay d6 (wU (by rw[C];simpa[bJ.co]using hp))).symm]at hn;have⟨j,d2,hj,dv,cv,w',hr,M,G,hv,R,T⟩:=IE (dl.mk d3.E b') av hn;have r:=r j hj;simp only[dv]at r;exact aq G hv R T (Bq a1 av X hr) r
    exact r.elim
   split at r
   .rename_i v H1 dx;have bv:aH x.op q (dF A B F).1=some (v,H1):=by rw[Ee (λd6 hp=>ay d6 (wU hp))];exact dx
    have av:=El b6 bv;have⟨cv,w',hr,M,G,hv,R,T⟩:=zb (dl.mk d3.E b') av bv;exact aq G hv R T (Bq a1 av X hr) r
   exact r.elim
end
section
variable{ac:Nat->aX}
theorem Dr.I4(i:Dr F W O g X I ac D J Q A m p k V q B o s S M Z)(h:B.get N≠.none):N.ap<B.next.ap:=by
 rcases aic N.ap B.next.ap with r|r;·omega
 exfalso;have h1:=(i.fI.du N (by rw[ai.iL];exact r)).1;rw[kf]at h1;split at h1;·rename_i hj;have⟨t,e,_,f⟩:=(i.py N).1 hj;have:=(i.qv t N e f).1;omega
 grind
theorem Dr.I5(hR:kT F V g X k)(cE:Dr F W V g X k ac D J Q q m I (O::p) z A H' o s S M Z)(hx:X[O]?=some t)(b6:t.op.jN=false){v:AV}(ag:∀j,H'.get j≠.none->B.get j=H'.get j)(cv:H'.next.ap<=B.next.ap)(ax:∀j,j∈pn'↔j∈s\/Mk X (aQ A t.dst v) O j)(x:∀j,Mk X (aQ A t.dst v) O j->H'.next.ap<=j.ap/\j.ap<B.next.ap/\(B.get j).kD/\S j=none/\¬W.un j/\∀cy,j∉(B.get cy).aK)(hI:bm F W S (B.eI pn') M)(eg:∀j∈s,∀cy,j∉(B.get cy).aK)(hp:Ej X (Region.before g) (O::I) q (aQ A t.dst v) B O)(b3:Go.al.aA False da ac u (ph X (Region.before g) (O::I) p) ⟨aQ A t.dst v,J,Q⟩ B D):Dr F W V g X k ac D J Q q m (O::I) p u (aQ A t.dst v) B o pn' S M Z:=by
 have a8:O∈O::p:=acj .. ;have a':O∉I:=zj hR cE.gj a8;have ba:¬In m O:=λh=>a' (cE.sub O h);have ay:∀cx,eR X O cx↔t.dst=some cx:=λcx=>⟨λ⟨y,R,dy⟩=>by rw[hx]at R;injection R with R;subst R;exact dy,λh=>⟨t,hx,h⟩⟩;have av:∀cy cx,cy∈I->eR X cy cx->t.dst≠some cx:=λcy cx f hd e=>a' (eR.inj hR.eB (nQ cE.gj f) (uv cE.gj a8) hd ((ay cx).2 e)▸f);have G:∀cx,t.dst≠some cx->(aQ A t.dst v).get .ai8 cx=A.get .ai8 cx:=λcx h=>by rw[qq,an h]
 have C:∀cy j,cy∈I->(Mk X (aQ A t.dst v) cy j↔Mk X A cy j):=λcy j f=>Mk.Em λcx T=>G cx (av cy cx f T);have b7:∀j,Mk X (aQ A t.dst v) O j->H'.get j=.none:=λj hj=>by apply ahF;intro b';have:=cE.I4 b';have:=(x j hj).1;omega
 refine⟨by rw[<-cE.gj];simp,cE.size,λj hj=>ab8 _ (cE.sub j hj),cE.nP,?_,b3,?_,?_,?_,?_,?_,?_,?_,?_,?_,cE.E,hI⟩
 .intro j hj hc;rcases ac2.1 hj with e|e;·subst e;have⟨y,R,bb⟩:=hc;rw[hx]at R;injection R with R;subst R;rw[b6]at bb;cases bb
  exact cE.Ek j e hc
 .intro cx T;rw[G cx λe=>T O (acj ..) ((ay cx).2 e)];exact cE.rH cx λcy f=>T cy (ab8 _ f)
 .intro cx T;rw[G cx λe=>T O (acj ..) ba ((ay cx).2 e)];exact cE.sQ cx λcy f=>T cy (ab8 _ f)
 .intro cx cy f hn aw;rcases ac2.1 f with e|e;·subst e;have bc:∀N∈I,¬eR X N cx:=λN r hd=>av N cx r hd ((ay cx).1 aw);rw[cE.sQ cx λN r _=>bc N r];exact cE.rH cx bc
  exact cE.zh cx cy e hn aw
 .intro j;rw[ax,cE.py];constructor
  .rintro(⟨cy,f,h1,h2⟩|h);·exact⟨cy,ab8 _ f,h1,(C cy j f).2 h2⟩
   exact⟨O,acj ..,ba,h⟩
  rintro⟨cy,f,h1,h2⟩;rcases ac2.1 f with e|e;·subst e;exact .inr h2
  exact .inl ⟨cy,e,h1,(C cy j e).1 h2⟩
 .intro cy N j f r h1 h2;rcases ac2.1 f with e|e
  .rcases ac2.1 r with e'|e';·rw[e,e']
   subst e;have:=(cE.qv N j e' ((C N j e').1 h2)).1;have:=(x j h1).1;omega
  rcases ac2.1 r with e'|e';·subst e';have:=(cE.qv cy j e ((C cy j e).1 h1)).1;have:=(x j h2).1;omega
  exact cE.ke cy N j e e' ((C cy j e).1 h1) ((C N j e').1 h2)
 .intro cy j f hm;rcases ac2.1 f with e|e;·subst e;exact⟨(x j hm).2.1,.inl ((ax j).2 (.inr hm))⟩
  have⟨h1,h2⟩:=cE.qv cy j e ((C cy j e).1 hm);exact⟨aa,h2.imp (λh=>(ax j).2 (.inl h)) id⟩
 .intro cy j f hm hc;rcases ac2.1 f with e|e;·subst e;exact(x j hm).2.2.1
  have R:=cE.kD cy j e ((C cy j e).1 hm) λcR ca=>hc cR (ab8 _ ca);rw[ag j (qp R).2.2];exact R
 .intro cy f hn;rcases ac2.1 f with e|e;·subst e;exact hp
  have⟨y,b4,bY,ex,R,hs,h1,h2,Y⟩:=cE.bU cy e hn;have a1:∀cx,y.dst=some cx->(aQ A t.dst v).get .ai8 cx=A.get .ai8 cx:=λcx T=>G cx (av cy cx e ⟨y,R,T⟩);refine⟨y,O::b4,bY,ex,R,by rw[hs];rfl,?_,h2,?_⟩;·rintro cx⟨N,r,aw⟩;rw[G cx (av N cx (by rw[hs];simp[r]) aw)];exact h1 cx ⟨N,r,aw⟩
  rcases Y with⟨hg,cd,hv⟩|⟨hg,c8,hv,Y⟩;·exact .inl ⟨hg,cd,λcx T=>by rw[a1 cx T];exact hv cx T⟩
  refine .inr ⟨hg,c8,λcx T=>by rw[a1 cx T];exact hv cx T,?_⟩;rcases Y with h|⟨hr,bv,a6⟩|⟨hm,nv,dq,j0,b0,cf,a2,a6⟩;·exact .inl h
  .refine .inr (.inl ⟨hr,λj hj=>?_,λcp cn=>a6 cp λj hj=>by rw[cn j hj,ag j (bv j hj).1]⟩);have⟨g1,g2⟩:=bv j hj;refine⟨by rw[ag j g1];exact g1,λN r hm=>?_⟩;rcases ac2.1 r with e'|e';·subst e';exact absurd (b7 j hm) g1
   exact g2 N e' ((C N j e').1 hm)
  refine .inr (.inr ⟨hm,nv,dq,j0,b0,cf,?_,a6⟩);rw[ag j0 (by rw[a2];exact(qp b0).2.2)];exact a2
 intro j hj;rcases(ax j).1 hj with h|h;·exact⟨(cE.dJ j h).1,(cE.dJ j h).2.1,eg j h⟩
 exact(x j h).2.2.2
theorem Dr.En(hR:kT F O g X k):∀(p:List Nat){I:List Nat}{n:Nat}{A:az AV}{H:ai}{J:List ah},Dr F W O g X k ac D s Q q m I p n A H o J S M Z->∃(G z:List Nat)(n':Nat)(B:az AV)(H':ai)(pn':List ah),n'<=n/\Dr F W O g X k ac D s Q q m G z n' B H' o pn' S M Z/\∀i r,z=i::r->Ch X i
 |[],I,n,A,H,J,dx=>⟨I,[],n,A,H,J,aeE n,dx,λi r h=>by grind⟩
 |i::p,I,n,A,H,J,dx=>by
  have bv:i∈i::p:=acj .. ;have⟨x,hx,a8⟩:=sR hR (uv dx.gj bv);cases N:x.op.jN with
  |true=>exact⟨I,i::p,n,A,H,J,aeE n,dx,λi' r h=>by injection h with h _;subst h;exact⟨x,hx,N⟩⟩
  |false=>
   have f:=dx.run;simp only[ph,hx]at f;cases n with
   |zero=>simp only[Go.al.aA]at f
   |succ n=>
    simp only[Go.al.aA,DH,N,Bool.false_or,abH,bF,dQ,bg]at f;have go:∀{B:az AV}{H':ai}{pn':List ah},Dr F W O g X k ac D s Q q m (i::I) p n B H' o pn' S M Z->∃(G z:List Nat)(n':Nat)(B:az AV)(H':ai)(pn':List ah),n'<=n+1/\Dr F W O g X k ac D s Q q m G z n' B H' o pn' S M Z/\∀i r,z=i::r->Ch X i:=by intro B H' pn' d';have⟨d0,r,d1,e,h,d2,h1,h2,h3⟩:=Dr.En hR p d';exact⟨d0,r,d1,e,h,d2,Nat.le_succ_of_le h1,h2,h3⟩
    have cf:i∉I:=zj hR dx.gj bv;have bc:∀dy t,dy∈I->eR X dy t->x.dst≠some t:=λdy t R hd e=>cf (eR.inj hR.eB (nQ dx.gj R) (uv dx.gj bv) hd ⟨x,hx,e⟩▸R);have ax:∀v t,(∃dy∈I,eR X dy t)->A.get .ai8 t=(aQ A x.dst v).get .ai8 t:=by rintro v t⟨dy,R,cn⟩;rw[qq,an (bc dy t R cn)]
    have a2:∀v j,Mk X (aQ A x.dst v) i j->x.op.kP=true/\gX v=some j:=by rintro v j⟨y,t,hy,g1,g2,g3⟩;rw[hx]at hy;injection hy with hy;subst hy;rw[qq,aF g2]at g3;exact⟨g1,g3⟩
    have ag:∀v t,x.dst=some t->(aQ A x.dst v).get .ai8 t=v:=λv t T=>by rw[qq,aF T]
    have av:∀{v:AV}{H2:ai},(∀j,H2.get j=H.get j)->H2.next=H.next->(∀j,¬Mk X (aQ A x.dst v) i j)->Ej X (Region.before g) (i::I) q (aQ A x.dst v) H2 i->Go.al.aA False da ac n (ph X (Region.before g) (i::I) p) ⟨aQ A x.dst v,s,Q⟩ H2 D->∃(G z:List Nat)(n':Nat)(B:az AV)(H':ai)(pn':List ah),n'<=n+1/\Dr F W O g X k ac D s Q q m G z n' B H' o pn' S M Z/\∀i r,z=i::r->Ch X i:=by intro v H2 h1 h2 h3 h4 h5;refine go (dx.I5 hR hx N (v:=v) (pn':=J) (λj _=>h1 j) (by rw[h2];exact aeE _) (λj=>⟨.inl,λh=>h.resolve_right (h3 j)⟩) (λj h=>absurd h (h3 j)) ?_ (λj hj dy=>by rw[h1];exact(dx.dJ j hj).2.2 dy) h4 h5);exact dx.fI.congr (by rw[ai.iL,ai.iL,h2]) λj=>by rw[kf,kf,h1]
    cases hg:d8 A x.guard with
    |false=>
     rw[hg]at f;simp only[abH,bF]at f;split at f;case isFalse=>exact f.elim
     rename_i cp;refine av (v:=.ai8) (λ_=>rfl) rfl (λj h=>?_) ?_ f;·have:=(a2 _ j h).2;simp[AV.ai8,gX]at this
     exact⟨x,[],I,A,hx,rfl,ax _,λt T=>dx.rH t T,.inl ⟨hg,cp,λt T=>ag _ t T⟩⟩
    |true=>
     rw[hg]at f;simp only[bg]at f;split at f;·rename_i b0;rw[b0]at N;simp[bJ.jN]at N
     .rename_i b0;rw[b0]at N;simp[bJ.jN]at N
     split at f;case h_2=>exact f.elim
     rename_i v H1 V;cases hrd:x.op.iZ with
     |true=>
      rw[hrd]at V f;simp only[bg]at V f;generalize b6:yS X (Region.before g) I i=ay at V f;have Y:=Bp A ay H;have b7:∀j,j∈iz A ay↔∃dy∈I,¬fu (Region.before g) i dy/\Mk X A dy j:=λj=>by rw[<-b6];exact IV
      have⟨q1,q2,q3⟩:=IQ hrd V;subst q1;have b3:∀j,(dj (dF A H ay).1 (dF A H ay).2).get j=H.get j:=λj=>by rw[((Y j).2.2 _).1,(Y j).1];split<;>rfl
      refine av (v:=v) b3 (by rw[((Y .xH).2.2 _).2,(Y .xH).2.1]) (λj h=>?_) ?_ f;·have:=(a2 _ j h).1;rw[(wT hrd).2.1]at this;cases this
      refine⟨x,[],I,A,hx,rfl,ax _,λt T=>dx.rH t T,.inr ⟨hg,v,λt T=>ag _ t T,.inr (.inl ⟨hrd,λj hj=>?_,λH' cv=>q3 H' λj hj=>?_⟩)⟩⟩
      .have a6:=q2 j hj;have ba:j∉iz A ay:=λh=>a6 (by rw[(Y j).1,aF h]);rw[(Y j).1,an ba]at a6;refine⟨by rw[b3];exact a6,λdy R hm=>?_⟩;rcases ac2.1 R with e|e;·subst e;have:=(a2 _ j hm).1;rw[(wT hrd).2.1]at this;cases this
       apply ahF;intro hA;exact ba ((b7 j).2 ⟨dy,e,hA,(Mk.Em λt T=>by rw[qq,an (bc dy t e T)]).1 hm⟩)
      have a6:=q2 j hj;have ba:j∉iz A ay:=λh=>a6 (by rw[(Y j).1,aF h]);rw[cv j hj,b3,(Y j).1,an ba]
     |false=>
      rw[hrd]at V f;simp only[abH,bF,dF,dj]at V f;cases E:x.op.kP with
      |false=>
       have cx:x.op.plain=true:=by
        simp only[rB,N,Bool.false_or,E,hrd,Bool.false_and,Bool.or_self,aij]at a8;rcases a8 with h|h;·exact h
        split at h<;>cases h
       have⟨q1,q2⟩:=QA cx V;subst q1;refine av (v:=v) (λ_=>rfl) rfl (λj h=>?_) ?_ f;·have:=(a2 _ j h).1;rw[E]at this;cases this
       exact⟨x,[],I,A,hx,rfl,ax _,λt T=>dx.rH t T,.inr ⟨hg,v,λt T=>ag _ t T,.inl ⟨E,q2⟩⟩⟩
      |true=>
       obtain⟨nv,dq,rfl,rfl,hy,b'⟩:=QB E V;have⟨f1,f2,f3⟩:=qp hy;have a1:∀j,(H.new dq).get j=if j=H.next then dq else H.get j:=λj=>ai.cL _ _ _;have cy:(H.new dq).next.ap=H.next.ap+1:=ah.eP _;have b4:H.get H.next=.none:=ahF λh=>by have:=dx.I4 h;omega
       have a':∀j,Mk X (aQ A x.dst (nv.of H.next)) i j->j=H.next:=λj h=>by have:=(a2 _ j h).2;rw[kC.name]at this;injection this with this;exact this.symm
       have cE:Mk X (aQ A x.dst (nv.of H.next)) i H.next:=by cases hd:x.dst with|some t=>exact⟨x,t,hx,E,hd,by rw[<-hd,ag _ t hd];exact kC.name nv _⟩|none=>simp[rB,hd,N,(wS E).2.2]at a8
       have ca:∀dy,H.next∉((H.new dq).get dy).aK:=λdy R=>by
        rw[a1]at R;by_cases e:dy=H.next;·rw[aF e,f2]at R;cases R
        rw[an e]at R;by_cases e':dy∈J
        .have⟨k',cR,hn,hm⟩:=(dx.py dy).1 e';have:=dx.bU k' cR hn;have⟨y,_,_,ex,c8,_,_,_,aw⟩:=this;have⟨y',t,bb,m1,m2,m3⟩:=hm;rw[c8]at bb;injection bb with bb;subst bb;rcases aw with⟨_,_,hv⟩|⟨_,u,hv,aw⟩;·rw[hv t m2]at m3;simp[AV.ai8,gX]at m3
         rcases aw with⟨hm,_⟩|⟨hr,_⟩|⟨_,ds,dr,j0,c9,c',cd,_⟩;·rw[m1]at hm;cases hm
         .rw[(wS m1).2.1]at hr;cases hr
         rw[hv t m2,c',kC.name]at m3;injection m3 with m3;subst m3;rw[cd,(qp c9).2.1]at R;cases R
        have:=(dx.fI.aK H.next dy (by rw[kf,an e'];exact R)).1;rw[ai.iL]at this;omega
       refine go (dx.I5 hR hx N (v:=nv.of H.next) (pn':=H.next::J) (λj hj=>by rw[a1,an (λe:j=H.next=>hj (by rw[e];exact b4))]) aa (λj=>?_) (λj h=>?_) ?_ (λj hj dy R=>?_) ?_ f);·rw[ac2];exact⟨λh=>h.elim (λe=>.inr (e▸cE)) .inl,λh=>h.elim .inr λh=>.inl (a' j h)⟩
       .rw[a' j h];refine⟨aeE _,aa,by rw[a1,aF rfl];exact hy,(dx.fI.du H.next (by rw[ai.iL];exact aeE _)).2,λhu=>?_,ca⟩;have:=(dx.fI.un H.next hu).2.1;rw[ai.iL]at this;omega
       .have h0:=dx.fI;have C:∀j,((H.new dq).eI (H.next::J)).get j=(H.eI J).get j:=λj=>by
         rw[kf,kf,a1];by_cases e:j=H.next
         .subst e;rw[aF (acj ..)];split;·rfl
          exact b4.symm
         by_cases e':j∈J;·rw[aF (ab8 _ e'),aF e']
         rw[an (by simp[e,e']),an e,an e']
        have dv:((H.new dq).eI (H.next::J)).next.ap=(H.eI J).next.ap+1:=by rw[ai.iL,ai.iL];exact cy
        exact⟨λi hi=>by rw[C]at hi⊢;exact h0.dq i hi,λi j dz x y dm hi hj=>by rw[C]at hi hj;rw[C,C];exact h0.jC i j dz x y dm hi hj,λi j hi=>by rw[C]at hi⊢;exact⟨by have:=(h0.aK i j hi).1;omega,(h0.aK i j hi).2⟩,λi dz x hi hf=>by rw[C]at hi hf;exact h0.wr i dz x hi hf,λi hi=>by rw[C];exact h0.du i aa,h0.new,h0.kR,λi dz x ob hi=>by rw[C]at hi⊢;exact h0.iK i dz x ob hi,h0.ef,λi dz x hi=>by rw[C]at hi;exact h0.rd i dz x hi,λi hi=>by rw[C];exact⟨(h0.un i hi).1,by have:=(h0.un i hi).2.1;omega,λj=>by rw[C];exact(h0.un i hi).2.2 j⟩,h0.dJ⟩
       .rw[a1]at R;split at R;·rw[f2]at R;cases R
        exact(dx.dJ j hj).2.2 dy R
       exact⟨x,[],I,A,hx,rfl,ax _,λt T=>dx.rH t T,.inr ⟨hg,_,λt T=>ag _ t T,.inr (.inr ⟨E,nv,dq,H.next,hy,rfl,by rw[a1,aF rfl],b'⟩)⟩⟩
end
section
variable{P:Program}
theorem QR(v:kT P nt g X I){b:Frame}(k:List Item)(cs:List Frame):∀(f t:Nat){L:Array Bool}{seen h:List Nat}{n:Nat}{af:az AV}{H:ai}{p:az AV}{C:List ah}{s:aP}{w:World}{a:Act},(∀m,m<n->rF P c m)->wR L g.size<=f->Dr P W nt g X I c D J Q A L seen h n af H p C s w a.tmps->kS s J a.defers->mP s Q b.roundOf->(∀i r,h=i::r->Ch X i)->gY P W s nt w b k cs (lone (b.atR a (.inRegion g (Region.linearise.go .any g f t L [])::k)) cs w) λj fr H=>(match j with|.none=>True|_=>False)/\D fr H:=by
 have aq:∀{L:Array Bool}{seen h:List Nat}{n:Nat}{af:az AV}{H:ai}{p:az AV}{C:List ah}{s:aP}{w:World}{a:Act},(∀i,i<g.size->In L i)->Dr P W nt g X I c D J Q A L seen h n af H p C s w a.tmps->kS s J a.defers->mP s Q b.roundOf->gY P W s nt w b k cs (lone (b.atR a (.inRegion g []::k)) cs w) λj fr H=>(match j with|.none=>True|_=>False)/\D fr H:=by
  intro L seen h n af H p C s w a eC d z F;have B:∀i∈I,i<g.size:=λi hi=>by
   have⟨x,hx,_⟩:=sR v hi;have⟨o,ho,_⟩:=v.op hx;rcases aic i g.size with q|q;·exact q
   rw[aiq q]at ho;cases ho
  have M:h=[]:=by cases h with|nil=>rfl|cons i r=>have hi:i∈i::r:=acj .. ;exact absurd (d.sub i (eC i (B i (uv d.gj hi)))) (zj v d.gj hi)
  subst M;have N:∀i∈seen,In L i:=λi hi=>eC i (B i (nQ d.gj hi));have ag:C=[]:=List.eq_nil_iff_forall_not_mem.2 λj hj=>by have⟨i,hi,h1,_⟩:=(d.py j).1 hj;exact h1 (N i hi)
  subst ag;have u:=d.run;simp only[ph]at u;cases n with|zero=>simp only[Go.al.aA]at u|succ n=>simp only[Go.al.aA]at u;have hE:gP s nt af a.tmps:=⟨d.E.1,λt ht=>by rw[<-d.sQ _ λi hi hn=>absurd (N i hi) hn];exact d.E.2 t ht⟩;exact .iN (.one stepR_region_end) (.Bn (fr:=⟨af,J,Q⟩) ⟨hE,z,F⟩ d.fI ⟨trivial,u⟩ k cs)
 intro f;induction f with
 |zero=>intro t L seen h n af H p C s w a l hf d z F hh;refine aq (λi hi=>?_) d z F;apply ahF;grind[QK]
 |succ f ih=>
  intro t L seen h n af H p C s w a l hf d z F hh;change gY P W s nt w b k cs (lone (b.atR a (.inRegion g (match(Region.ready .any g L)[t %(Region.ready .any g L).length]? with|some i=>Region.linearise.go .any g f (t/(Region.ready .any g L).length) (L.setIfInBounds i true) [i]|none=>[].reverse)::k)) cs w) _;cases hi:(Region.ready .any g L)[t %(Region.ready .any g L).length]? with
  |none=>
   have Y:Region.ready .any g L=[]:=by cases hr:Region.ready .any g L with|nil=>rfl|cons x xs=>rw[hr]at hi;have B:t %(x::xs).length<(x::xs).length:=Nat.mod_lt _ aC;simp at hi;simp at B;omega
   exact aq (QI d.size v.he Y) d z F
  |some i=>
   simp only[];rw[linearise_go_acc,List.reverse_singleton,List.singleton_append];have⟨h1,h2,h3⟩:=QH d.size (List.mem_of_getElem? hi);have O:wR (L.setIfInBounds i true) g.size<=f:=by have:=QJ d.size h1 h2;omega
   by_cases gZ:i∈seen;·have⟨av,w',a',Z,aw,G,g2,g3,g4,g5⟩:=d.QO v gZ h2 h3 rfl (b:=b) (a:=a) (Region.linearise.go .any g f (t/(Region.ready .any g L).length) (L.setIfInBounds i true) []) k cs;refine .wP G g2 (.iN g4 (ih _ l O g5 (by rw[g3];exact z.mono G) ?_ hh));exact(gI.mono (nt:=nt) (fr:=⟨p,J,Q⟩) (ro:=b.roundOf) (a:=a) G ⟨d.E,z,F⟩).R
   have S:i∈h:=by have:=v.eC i h1;rw[<-d.gj,ac6,List.mem_reverse]at this;exact this.resolve_left gZ
   cases h with
   |nil=>grind
   |cons bb h=>
    have T:=hh bb h rfl;have ax:i=bb:=by
     rcases ac2.1 S with e|e;·exact e
     exfalso;have⟨x,hx,ay⟩:=T;have⟨y,hy,_⟩:=sR v (uv d.gj S);have V:=(zg v.eB).1;rw[<-d.gj,List.pairwise_append,aiG]at V;have hA:=((px (V.2.1.1 i e) hx hy).2.2.2.2 ay).1;have:=sP d.nP i h3 bb hA;exact zj v d.gj (acj ..) (d.sub bb this)
    subst ax;have⟨av,w',a',n',a6,H',Z,aw,g0,G,g2,g3,g4,g5⟩:=d.QQ v l T h3 rfl (b:=b) (a:=a) (Region.linearise.go .any g f (t/(Region.ready .any g L).length) (L.setIfInBounds i true) []) k cs;have⟨a1,a2,n2,a8,H2,ba,e1,e2,e3⟩:=g5.En v;refine .wP G g2 (.iN g4 (ih _ (λm hm=>l m aa) O e2 (by rw[g3];exact z.mono G) ?_ e3));exact(gI.mono (nt:=nt) (fr:=⟨p,J,Q⟩) (ro:=b.roundOf) (a:=a) G ⟨d.E,z,F⟩).R
theorem QS(f:∀m,m<n->rF P c m):IM P c n:=by
 intro q v H w x fr O id aA K b a g he r F k cs;simp only[uj,aeX,abF,ahN,abH,bF]at g;have⟨l,hl,g⟩:=g;split at g;case isFalse=>grind
 rename_i o;simp only[ahe,aa9]at g;subst g;simp only[ahl,aiv,ahR]at o;have⟨⟨⟨G,I⟩,y⟩,z⟩:=o;generalize order l (Region.before aA) aA.size 0 []=am at he y z;have A:kT P x aA l am:=⟨hl,I,λi hi=>by simpa using y i hi,z⟩;have e:∀i,¬In (Array.replicate aA.size false) i:=λi h=>by unfold In at h;simp only[ah2,Array.getElem?_replicate]at h;split at h<;>cases h
 let B:World:={w with drawn:=w.drawn+1};have d:Dr P q x aA l am c K fr.bA fr.bx fr.af (Array.replicate aA.size false) [] am n fr.af H fr.af [] v B a.tmps:=⟨rfl,aC,λi h=>absurd h (e i),λi h=>absurd h (e i),λ_ h=>absurd h ahv,he,λt _=>rfl,λt _=>rfl,λ_ _ h=>absurd h ahv,λj=>⟨λh=>absurd h ahv,λ⟨i,h,_⟩=>absurd h ahv⟩,λ_ _ _ h=>absurd h ahv,λ_ _ h=>absurd h ahv,λ_ _ h=>absurd h ahv,λ_ h=>absurd h ahv,λ_ h=>absurd h ahv,r.E,F.drew⟩;have⟨s,u,Q,C,S,N,T,J,L⟩:=d.En A;have p:Region.schedule (P.follows .mixedOrders) aA (w.tape w.drawn (.order b.fn id))=Region.linearise.go .any aA aA.size (w.tape w.drawn (.order b.fn id)) (Array.replicate aA.size false) []:=by
  have:(P.follows .mixedOrders||!Region.departs aA)=true:=by simpa using G
  simp only[Region.schedule,this,bg];rfl
 have dg:=stepR_region_draw (P:=P) (b:=b) (a:=a) (k:=k) (cs:=cs) (w:=w) (ops:=aA) (id:=id);rw[p]at dg;have M:dk q w B:=(dk.refl q w).drew;refine .wP (b9.refl v) M (.iN (.one dg) (QR A k cs aA.size _ (λm V=>f m aa) ?_ J r.D r.R L));grind[wR,Nat.le_trans,List.length_filter_le]
theorem Br(d:lI P c):∀n,(∀m,m<=n->rF P c m)/\wN P c n/\Bm P c n
 |0=>by
  refine⟨λm e=>?_,?_,?_⟩;·have:m=0:=aa;subst this;intro f g H w k args K fv h he;trivial
  .intro f g H w i fr p cc K b a j he;trivial
  intro f g H w i fr l is aA K b a o he;trivial
 |n+1=>by have⟨h1,h2,h3⟩:=Br d n;have j:rF P c (n+1):=Qz d h2;refine⟨λm e=>?_,Qy d h2 h3 (QS λm e=>h1 m aa) (h1 n (aeE n)),Qs (h1 n (aeE n)) h3⟩;grind
end
end
end Go.al
namespace Go.al.K
variable{e:Type}{n:Nat}
theorem jl(n:Nat)(k:Nat->Prop):dV n k=k n:=by cases n<;>rfl
theorem sS(n:Int)(k:Int->Prop):lG n k=k n:=by cases n<;>simp only[lG,jl]
theorem wX:∀(p:ah)(k:ah->Prop),o0 p k=k p|.xH,_=>rfl|.xO p,k=>wX p λp=>k (.xO p)|.xI p,k=>wX p λp=>k (.xI p)
theorem Eo:∀(p:ah)(k:ah->Prop),yI p k=k p.succ|.xH,_=>rfl|.xO _,_=>rfl|.xI p,k=>Eo p λp=>k (.xO p)
theorem gk(a:Bool)(x y:Prop):dG a x y=if a=true then x else y:=by cases a<;>simp[dG]
theorem I6(a:Bool)(k:Bool->Prop):we a k=k a:=by cases a<;>rfl
theorem Bs(d:e):∀p:ah,(az.ch:az e).get d p=d|.xH=>rfl|.xO p=>Bs d p|.xI p=>Bs d p
theorem wY(d:e):∀(p:ah)(t:az e)(k:e->Prop),ue d p t k=k (t.get d p)|.xH,.ch,_=>rfl|.xH,.node _ _ _,_=>rfl|.xO p,.ch,k=>by show k d=k ((az.ch:az e).get d p);rw[Bs]|.xO p,.node l _ _,k=>wY d p l k|.xI p,.ch,k=>by show k d=k ((az.ch:az e).get d p);rw[Bs]|.xI p,.node _ _ r,k=>wY d p r k
theorem sU(d:e):∀(p:ah)(v:e)(t:az e)(k:az e->Prop),uf d p v t k=k (t.set d p v)|.xH,_,.ch,_=>rfl|.xH,_,.node _ _ _,_=>rfl|.xO p,v,.ch,k=>sU d p v .ch λl=>k (.node l d .ch)|.xO p,v,.node l w r,k=>sU d p v l λl=>k (.node l w r)|.xI p,v,.ch,k=>sU d p v .ch λr=>k (.node .ch d r)|.xI p,v,.node l w r,k=>sU d p v r λr=>k (.node l w r)
theorem wZ(d:e):∀(t:az e)(n:Nat)(k:e->Prop),pa d t n k=k (t.br d n)|.ch,n,k=>by rfl|.node l v r,0,k=>rfl|.node l v r,m+1,k=>by show dG (ahr (Nat.mod m 2) 0) (pa d l (Nat.div m 2) k) (pa d r (Nat.div m 2) k)=_;rw[gk,wZ d l,wZ d r];simp only[az.br];show(if ahr (m % 2) 0=true then k (l.br d (m/2))else k (r.br d (m/2)))=_;by_cases h:m % 2=0;all_goals simp_all
theorem I7(d x:e)(t:az e)(k:az e->Prop):CX d x t k=k (.node t.left x t.right):=by cases t<;>rfl
theorem zl(d:e):∀(f n:Nat)(x:e)(t:az e)(k:az e->Prop),ug d f n x t k=k (t.lD d f n x)
 |0,0,x,t,k=>I7 d x t k
 |0,n+1,x,t,k=>rfl
 |f+1,0,x,t,k=>I7 d x t k
 |f+1,m+1,x,t,k=>by
  show dG (ahr (Nat.mod m 2) 0) (lK d (ug d f) (Nat.div m 2) x t k) (rK d (ug d f) (Nat.div m 2) x t k)=_;have hl:lK d (ug d f) (Nat.div m 2) x t k=k (.node (t.left.lD d f (m/2) x) (t.val d) t.right):=by cases t with|ch=>exact zl d f (m/2) x .ch λl=>k (.node l d .ch)|node l w r=>exact zl d f (m/2) x l λl=>k (.node l w r)
  have a:rK d (ug d f) (Nat.div m 2) x t k=k (.node t.left (t.val d) (t.right.lD d f (m/2) x)):=by cases t with|ch=>exact zl d f (m/2) x .ch λr=>k (.node .ch d r)|node l w r=>exact zl d f (m/2) x r λr=>k (.node l w r)
  rw[gk,hl,a];simp only[az.lD];show(if ahr (m % 2) 0=true then _ else _)=_;by_cases h:m % 2=0;all_goals simp_all
theorem I8:∀(l:List Nat)(k:List Nat->Prop),AM l k=k l|[],_=>rfl|n::l,k=>by show dV n (λn=>AM l λl=>k (n::l))=_;rw[jl,I8 l]
def Bt(l:List AV):(List AV->Prop)->Prop:=
 AV.rec_1 (motive_1:=λ_=>(AV->Prop)->Prop) (motive_2:=λ_=>(List AV->Prop)->Prop)
   (λ_ c k=>c λl=>k (.tuple l))
   (λ_ c k=>c λl=>k (.agg l))
   (λi k=>we i λi=>k (.bool i))
   (λj n k=>dV j λj=>lG n λn=>k (.int j n))
   (λs k=>AM s λs=>k (.str s))
   (λid off k=>o0 id λid=>dV off λoff=>k (.aD id off))
   (λk=>k .j5)
   (λid off len cap ex k=>o0 id λid=>dV off λoff=>dV len λlen=>dV cap λcap=>we ex λex=>k (.slice id off len cap ex))
   (λk=>k .bj)
   (λid k=>o0 id λid=>k (.map id))
   (λk=>k .cP)
   (λf _ _ d e k=>dV f λf=>d λa=>e λi=>k (.func f a i))
   (λid k=>o0 id λid=>k (.yield id))
   (λk=>k .nilFunc)
   (λt _ c k=>dV t λt=>c λv=>k (.iface t v))
   (λk=>k .nilIface)
   (λk=>k .bQ)
   (λk=>k [])
   (λ_ _ g h k=>g λv=>h λl=>k (v::l)) l
mutual
theorem uw:∀(v:AV)(k:AV->Prop),qh v k=k v
 |.tuple l,k=>zm l λl=>k (.tuple l)
 |.agg l,k=>zm l λl=>k (.agg l)
 |.bool d,k=>I6 d λd=>k (.bool d)
 |.int j n,k=>by show dV j (λj=>lG n λn=>k (.int j n))=_;rw[jl,sS]
 |.str s,k=>I8 s λs=>k (.str s)
 |.aD i o,k=>by show o0 i (λi=>dV o λo=>k (.aD i o))=_;rw[wX,jl]
 |.j5,_=>rfl
 |.slice i o l c e,k=>by show o0 i (λi=>dV o λo=>dV l λl=>dV c λc=>we e λe=>k (.slice i o l c e))=_;rw[wX,jl,jl,jl,I6]
 |.bj,_=>rfl
 |.map i,k=>wX i λi=>k (.map i)
 |.cP,_=>rfl
 |.func f a d,k=>by show dV f (λf=>Bt a λa=>Bt d λd=>k (.func f a d))=_;rw[jl,zm a,zm d]
 |.yield i,k=>wX i λi=>k (.yield i)
 |.nilFunc,_=>rfl
 |.iface t v,k=>by show dV t (λt=>qh v λv=>k (.iface t v))=_;rw[jl,uw v]
 |.nilIface,_=>rfl
 |.bQ,_=>rfl
theorem zm:∀(l:List AV)(k:List AV->Prop),Bt l k=k l
 |[],_=>rfl
 |v::l,k=>by show qh v (λv=>Bt l λl=>k (v::l))=_;rw[uw v,zm l]
end
theorem qy:∀(l:List AV)(k:List AV->Prop),mM l k=k l|[],_=>rfl|v::l,k=>by show qh v (λv=>mM l λl=>k (v::l))=_;rw[uw,qy l]
theorem gJ(af:az AV)(x:aJ)(k:AV->Prop):eO af x k=k (gv af x):=by cases x with|t p=>exact wY _ _ _ _|c v=>rfl
theorem I9(af:az AV):∀(l:List aJ)(k:List AV->Prop),AN af l k=k (l.map (gv af))|[],_=>rfl|x::l,k=>by show eO af x (λv=>AN af l λl=>k (v::l))=_;rw[gJ,I9 af l];rfl
theorem zn(a:e)(k:e->Prop):iJ (some a) k=k a:=rfl
theorem Ep(H:ai)(i:ah)(k:bR->Prop):yJ H i k=k (H.get i):=wY _ _ _ _
theorem w6(H:ai)(i:ah)(o:bR)(k:ai->Prop):pb H i o k=k (H.set i o):=sU _ _ _ _ _
theorem sV(H:ai)(o:bR)(k:ah->ai->Prop):mN H o k=k H.next (H.new o):=by show uf .none H.next o H.t (λa=>yI H.next λm=>k H.next ⟨a,m⟩)=_;rw[sU,Eo];rfl
theorem I':∀(l:List ah)(H:ai)(k:ai->Prop),CY l H k=k (H.eI l)|[],_,_=>rfl|i::l,H,k=>by show pb H i .none (λH=>CY l H k)=_;rw[w6,I' l];rfl
def QT(o:bR)(k:az AV->Nat->Nat->Bool->List ah->Nat->Prop):Prop:=
 match o with
 |.cells c n e rw aK fz=>k c n e rw aK fz
 |_=>False
theorem Bu(H:ai)(i:ah)(k:az AV->Nat->Nat->Bool->List ah->Nat->Prop):uh H i k=QT (H.get i) k:=by unfold uh;rw[Ep];cases H.get i<;>rfl
theorem Er(c:az AV)(n:Nat):∀(m off:Nat)(k:List AV->Prop),AO c n m off k=iJ (fZ c n off m) k
 |0,_,_=>rfl
 |m+1,off,k=>by
  show dG (ahO off n) (dV off λoff=>pa .ai8 c off λv=>AO c n m (Nat.succ off) λl=>k (v::l)) False=_;rw[gk,jl,wZ,Er c n m];simp only[fZ];by_cases h:off<n;·rw[aF (ai5 aib h),aF h];cases fZ c n (off+1) m<;>rfl
  rw[an (λe=>h (Eq.mp aib e)),an h];rfl
theorem Bv:∀(l:List AV)(c:az AV)(off:Nat)(k:az AV->Prop),yK l c off k=k (ez c off l)|[],_,_,_=>rfl|v::l,c,off,k=>by show dV off (λoff=>ug .ai8 off off v c λc=>yK l c (Nat.succ off) k)=_;rw[jl,zl,Bv l];rfl
theorem QU(H:ai)(i:ah)(off m:Nat)(k:List AV->Prop):AP H i off m k=iJ (dE H i off m) k:=by unfold AP;rw[Bu];unfold dE;cases H.get i<;>first|rfl|exact Er _ _ _ _ _
theorem mT(a c:Bool):lf a c=(a&&c):=by cases a<;>rfl
theorem zo:∀l:List AV,wi l=cU l|[]=>rfl|v::l=>by show lf v.cY (wi l)=_;rw[mT,zo l];rfl
theorem rI:∀l:List e,lH l=l.length|[]=>rfl|_::l=>by show Nat.succ (lH l)=_;rw[rI l];rfl
theorem Es(H:ai)(i:ah)(off:Nat)(l:List AV)(k:ai->Prop):wl H i off l k=iJ (gF H i off l) k:=by
 unfold wl;rw[Bu];unfold gF;cases H.get i<;>(try rfl);rename_i c n e a aK fz;show CZ H i off l k c n e a aK fz=_;unfold CZ;rw[gk,I',Bv,w6,mT,mT,mT,rI,zo];cases a with
 |false=>rfl
 |true=>
  simp only[aiU];have h1:aih fz off=decide (fz<=off):=by
   by_cases h:fz<=off;·rw[decide_eq_true h,ahV h]
   rw[decide_eq_false h];cases hb:aih fz off with|false=>rfl|true=>exact absurd (aht hb) h
  have h2:aih (Nat.add off l.length) n=decide (off+l.length<=n):=by
   by_cases h:off+l.length<=n;·rw[decide_eq_true h];exact ahV h
   rw[decide_eq_false h];cases hb:aih (Nat.add off l.length) n with|false=>rfl|true=>exact absurd (aht hb) h
  rw[h1,h2,Bool.and_assoc];cases(decide (fz<=off)&&(decide (off+l.length<=n)&&cU l))<;>rfl
theorem w7(H:ai)(l:List AV)(n a:Nat)(k:ah->ai->Prop):sB H l n a k=k H.next (H.new (.cells (cr l) n a true [] 0)):=by unfold sB;rw[Bv,jl,sV];rfl
section
def ip(o:Option (AV×ai))(k:KV):Prop:=
 match o with
 |some p=>k p.1 p.2
 |none=>False
theorem QV(o:bJ)(a:jB)(af:az AV)(H:ai)(k:KV):gG o a af H k=ip (aH o af H) k:=by unfold gG;cases aH o af H with|none=>rfl|some p=>exact uw p.1 λv=>k v p.2
theorem QW(b bytes size:Nat)(H:ai)(n:Nat)(l:List AV)(k:KV):C1 b bytes size H n l k=ip (if ahr n 0 then some (.bj,H)else if dU (n*bytes)&&dU n then some (.slice H.next 0 n n false,H.new (.cells (cr l) (n*size) b true [] 0))else none) k:=by unfold C1;rw[gk,gk,w7,mT];cases ahr n 0<;>(try rfl);cases(dU (n*bytes)&&dU n)<;>rfl
theorem Ja(b bytes size:Nat)(H:ai)(s:AV)(n:Nat)(l:List AV)(k:KV):yL b bytes size H s n l k=ip (jk b bytes size H s n l) k:=by
 unfold yL jk;rw[gk,zo];cases cU l with
 |false=>rfl
 |true=>
  simp only[ahN,abH,bF,bg];cases s<;>(try rfl)
  .rename_i id off len cap exact;show C3 b bytes size H n l k id off len cap exact=_;unfold C3;rw[jl,gk];show(if aih (len+n) cap=true then _ else _)=_;cases f:aih (len+n) cap with
   |true=>simp only[f,bg];unfold Hj;rw[gk,jl,Es];cases ahr n 0 with|true=>rfl|false=>simp only[abH,bF];show iJ (gF H id (off+len*size) l) _=_;cases gF H id (off+len*size) l<;>rfl
   |false=>simp only[f,abH,bF];rw[gk,mT];show(if(dU ((len+n)*bytes)&&dU (len+n))=true then _ else _)=_;cases(dU ((len+n)*bytes)&&dU (len+n))with|false=>rfl|true=>simp only[bg,ahN,abH,bF];rw[Bu];cases H.get id<;>(try rfl);rename_i c m e d aK fz;show C2 b size H l k id off len cap exact (len+n) c m e d aK fz=_;unfold C2;rw[Er];show iJ (fZ c m off (len*size)) _=_;simp only;cases fZ c m off (len*size)with|none=>rfl|some cI=>rw[zn,qy,gk,gk,w7];cases exact with|true=>rfl|false=>simp only[abH,bF];unfold Hk;rw[gk,w6,Bv,jl,jl,sV,mT,mT,mT];show(if ahr len cap=true then(if(d&&(ahr (off+cap*size) m&&(ahr e b&&aih fz m)))=true then _ else False)else False)=ip (if(d&&ahr len cap&&ahr (off+cap*size) m&&ahr e b&&aih fz m)=true then _ else none) k;cases d<;>cases ahr len cap<;>cases ahr (off+cap*size) m<;>cases ahr e b<;>cases aih fz m<;>rfl
  exact QW b bytes size H n l k
theorem QX(c b:Int)(k:Int->Prop):Hm c b k=k (c+b):=by cases c with|negSucc m=>exact sS (.negSucc m+b) k|ofNat m=>cases b with|negSucc n=>exact sS (.ofNat m+ .negSucc n) k|ofNat n=>exact jl (m+n) λs=>k (.ofNat s)
theorem QY(c b:Int)(k:Int->Prop):Hn c b k=k (c - b):=by
 cases c with
 |negSucc m=>exact sS (.negSucc m - b) k
 |ofNat m=>
  cases b with
  |negSucc n=>rfl
  |ofNat n=>
   show dG (aih n m) (dV (Nat.sub m n) λs=>k (.ofNat s)) (lG (.ofNat m - .ofNat n) k)=_;rw[gk,jl,sS];split;·rename_i h;have:=aht h;grind
   rfl
theorem QZ(n:Int)(k:Int->Prop):Ho n k=k (gf 3 n):=by
 cases n with
 |negSucc m=>exact sS (gf 3 (.negSucc m)) k
 |ofNat m=>
  show dG (ahO m 9223372036854775808) (k (.ofNat m)) (lG (gf 3 (.ofNat m)) k)=_;rw[gk,sS];split;·rename_i h;simp only[gf,h,bg]
  rfl
theorem Jb(j:Nat)(n:Int)(k:Int->Prop):AQ j n k=k (gf j n):=by simp_all[AQ,gk,sS,QZ,ahn]
theorem Jc(c b:Int):C4 c b=gz c b:=by cases c<;>cases b<;>rfl
theorem Jd(c b:Int):yM c b=j7 c b:=by cases c<;>cases b<;>rfl
theorem Je(b:Bool):AR b=!b:=by cases b<;>rfl
theorem Bw(b:Bool)(k:AV->Prop):pc b k=k (.bool b):=by cases b<;>rfl
theorem Q0(op:BinOp)(j:Nat)(d b:Int)(k:AV->Prop):C7 op j d b k=iJ (fO op j d b) k:=by
 have gG:∀c,rp c j d b k=iJ (fO c j d b) k:=λc=>by unfold rp;cases fO c j d b with|none=>rfl|some v=>exact uw v k
 cases op;·show C5 j d b k=_;unfold C5;rw[QX,Jb];rfl
 .show C6 j d b k=_;unfold C6;rw[QY,Jb];rfl
 all_goals first|exact gG _|rfl|(show pc _ k=_;rw[Bw,Jc];rfl)|(show pc _ k=_;rw[Bw,Je,Jc];rfl)|(show pc _ k=_;rw[Bw,Jd];rfl)|(show pc _ k=_;rw[Bw,Je,Jd];rfl)
theorem Q1(op:BinOp)(j:Nat)(x y:AV)(k:AV->Prop):C8 op j x y k=iJ (yG op j x y) k:=by unfold C8 Hl yG;cases x<;>(try rfl);cases y<;>(try rfl);rename_i i c l b;show dG (lf (ahr i j) (ahr l j)) (C7 op j c b k) False=_;rw[gk,mT,Q0];simp only;cases(ahr i j&&ahr l j)<;>rfl
theorem Bx(o:Option AV)(H:ai)(k:KV):ip (o.map λv=>(v,H)) k=iJ o λv=>k v H:=by cases o<;>rfl
variable(a:jB)(af:az AV)(H:ai)(k:KV)
theorem Q2(c d b:aJ):C9 c d b a af H k=ip (aH (.pick c d b) af H) k:=by unfold C9;rw[gJ];simp only[aH];cases gv af c<;>(try rfl);rename_i t;show dG t (eO af d λv=>k v H) (eO af b λv=>k v H)=_;rw[gJ,gJ];cases t<;>rfl
theorem Q3(e:Nat)(x:aJ):Da e x a af H k=ip (aH (.box e x) af H) k:=by unfold Da;rw[gJ,qy,gk,w7,zo,rI];simp only[aH];cases cU (gv af x).cells<;>rfl
theorem Q4(e:Nat)(b:List AV):Db e b a af H k=ip (aH (.alloc e b) af H) k:=by unfold Db;rw[w7,rI];rfl
theorem Q5(e n:Nat)(b:List AV)(c:List (Nat×Nat×aJ)):Dc e n b c a af H k=ip (aH (.buildSlice e n b c) af H) k:=by unfold Dc;simp only[aH];cases lE af (dZ b n) c with|none=>rfl|some l=>rw[zn,qy,gk,w7,zo,rI];simp only;cases cU l<;>rfl
theorem Q6(H:ai)(id:ah)(off:Nat):dE H id off 1=(match H.get id with|.cells c n _ _ _ _=>if off<n then some [c.br .ai8 off]else none|_=>none):=by rfl
theorem Q7(d:aJ):Dd d a af H k=ip (aH (.aW d) af H) k:=by
 unfold Dd;rw[gJ];simp only[aH,Bx];unfold Hr ui gW;cases gv af d<;>(try rfl);rename_i id off;show uh H id (Hq off λv=>k v H)=_;rw[Bu];simp only[Q6];cases H.get id<;>(try rfl);rename_i c n e b aK fz;show dG (ahO off n) (pa .ai8 c off λv=>k v H) False=_;rw[gk,wZ];by_cases h:off<n;·rw[aF (ai5 aib h)];simp only[h,bg];rfl
 rw[an (λe=>h (Eq.mp aib e))];simp only[h,bF];rfl
theorem Q8(n:Nat)(b:aJ):De n b a af H k=ip (aH (.ee n b) af H) k:=by unfold De;rw[gJ];simp only[aH,Bx];unfold ui gW;cases gv af b<;>(try rfl);rename_i id off;show AP H id off n _=_;rw[QU];simp only;cases dE H id off n<;>rfl
theorem Q9(n:Nat)(b x:aJ):Df n b x a af H k=ip (aH (.store n b x) af H) k:=by
 unfold Df;rw[gJ,gJ,qy];simp only[aH];cases gv af b<;>(try rfl);rename_i id off;show dG (ahr (lH (gv af x).cells) n) (wl H id off (gv af x).cells λH=>k .ai8 H) False=_;rw[gk,Es,rI];by_cases h:(gv af x).cells.length=n;·rw[aF (by rw[h];exact ait n)];simp only[h,bg];cases gF H id off (gv af x).cells<;>rfl
 rw[an (λe=>h (ahn e))];simp only[h,bF];rfl
theorem Q'(op:BinOp)(j:Nat)(x y:aJ):Dg op j x y a af H k=ip (aH (.arith op j x y) af H) k:=by simp[Dg,gJ,Q1,aH,Bx]
theorem Ra(off:Nat)(x:aJ):Dh off x a af H k=ip (aH (.iX off x) af H) k:=by unfold Dh;rw[gJ];unfold ui;simp only[aH];cases gv af x<;>(try rfl);exact jl _ _
theorem Rb(s:Nat)(x i:aJ):Di s x i a af H k=ip (aH (.dH s x i) af H) k:=by unfold Di;rw[gJ,gJ];simp only[aH];cases gv af x<;>(try rfl);cases gv af i<;>(try rfl);rename_i z;cases z<;>(try rfl);rename_i id o len c e b j;show dG (ahO j len) (dV (Nat.add o (Nat.mul j s)) λo=>k (.aD id o) H) False=_;grind[gk,jl,ip,ahO]
theorem Rc:Dj a af H k=ip (aH .ky af H) k:=by unfold Dj;rw[sV];rfl
theorem Rd(e b s:Nat)(d:List AV)(x y:aJ):Dk e b s d x y a af H k=ip (aH (.mJ e b s d x y) af H) k:=by
 unfold Dk;rw[gJ,gJ];simp only[aH];generalize gv af x=g;generalize gv af y=h;unfold Hu;split;·rename_i l c;rw[gk,qy,w7,mT,mT,<-Bool.and_assoc];simp only;cases(aih l c&&dU (c*b)&&dU c)<;>rfl
 rename_i f;split;·grind
 rfl
theorem Re(e b s:Nat)(d:List AV)(m:Bool)(x y:aJ):Dl e b s d m x y a af H k=ip (aH (.append e b s d m x y) af H) k:=by
 unfold Dl;rw[gJ,gJ,gk];simp only[aH];cases m with
 |true=>
  simp only[bg];generalize gv af y=f;unfold Hv;split;·rename_i n;rw[gk,qy,Ja,mT];simp only;cases(dU (n*b)&&dU n)<;>rfl
  rename_i c;split;·rename_i n;exact absurd rfl (c n)
  rfl
 |false=>simp only[abH,bF];cases gh H s (gv af y)with|none=>rfl|some p=>show dV p.1 (λn=>mM p.2 λl=>yL e b s H (gv af x) n l k)=_;rw[jl,qy,Ja]
theorem Rf(s:Nat)(x y:aJ):Do s x y a af H k=ip (aH (.copy s x y) af H) k:=by
 unfold Do;rw[gJ,gJ];simp only[aH];cases gh H s (gv af y)with
 |none=>cases gv af x<;>rfl
 |some p=>
  show Dm s H k (gv af x) p.1 p.2=_;unfold Dm;cases gv af x<;>(try rfl);rename_i id off len c e;show dV (min p.1 len) _=_;rw[jl,gk,qy,Es];simp only;by_cases h:min p.1 len=0;·rw[aF (by rw[h];rfl)];simp only[h,bg];rfl
  rw[an (λe=>h (ahn e))];simp only[h,bF];cases gF H id off (p.2.take (min p.1 len*s))<;>rfl
theorem Rg(x:aJ):Dp x a af H k=ip (aH (.pV x) af H) k:=by unfold Dp;rw[gJ];unfold Hw;simp only[aH];cases gv af x<;>(try rfl);show mN _ _ _=_;rw[sV];rfl
theorem Rh(x:aJ):Dq x a af H k=ip (aH (.lX x) af H) k:=by
 unfold Dq;rw[gJ];unfold Hy;simp only[aH];cases gv af x<;>(try rfl);·rename_i m;show yJ H m _=_;rw[Ep];simp only;cases H.get m<;>(try rfl);show mN _ _ _=_;rw[sV];rfl
 rw[sV];rfl
theorem Jf:∀(l:List AV)(n:Nat)(k:AV->Prop),Ds l n k=iJ (nI l n) k|[],_,_=>rfl|_::_,0,_=>rfl|_::l,n+1,k=>Jf l n k
theorem Ri(x:aJ)(i:Nat):Dt x i a af H k=ip (aH (.extract x i) af H) k:=by unfold Dt;rw[gJ];simp only[aH];cases gv af x<;>(try rfl);rename_i l;show Ds l i _=_;rw[Jf,Bx]
theorem Rj(x:aJ):Du x a af H k=ip (aH (.nilCheck x) af H) k:=by unfold Du;rw[gJ];simp only[aH];cases gv af x<;>rfl
theorem Rl(x:aJ):Dv x a af H k=ip (aH (.iY x) af H) k:=by unfold Dv;rw[gJ];simp only[aH];cases gv af x<;>rfl
theorem Rm(o:bJ)(h:o.yR=false)(h2:∀b,o≠.j6 b):wm o a af H k=ip (aH o af H) k:=by
 cases o;case call=>trivial
 case j6 b=>grind
 case bf x=>exact gJ _ _ _
 case pick=>exact Q2 a af H k _ _ _
 case box=>exact Q3 a af H k _ _
 case alloc=>exact Q4 a af H k _ _
 case buildSlice=>exact Q5 a af H k _ _ _ _
 case aW=>exact Q7 a af H k _
 case ee=>exact Q8 a af H k _ _
 case store=>exact Q9 a af H k _ _ _
 case arith=>exact Q' a af H k _ _ _ _
 case iX=>exact Ra a af H k _ _
 case dH=>exact Rb a af H k _ _ _
 case ky=>exact Rc a af H k
 case mJ=>exact Rd a af H k _ _ _ _ _ _
 case append=>exact Re a af H k _ _ _ _ _ _ _
 case copy=>exact Rf a af H k _ _ _
 case pV=>exact Rg a af H k _
 case lX=>exact Rh a af H k _
 case extract=>exact Ri a af H k _ _
 case nilCheck=>exact Rj a af H k _
 case iY=>exact Rl a af H k _
 all_goals exact QV _ a af H k
theorem Rn(f:aJ)(args:List aJ):wm (.call f args) a af H k=a.call (gv af f) (args.map (gv af)) H k:=by show eO af f (λf=>AN af args λargs=>a.call f args H k)=_;rw[gJ,I9]
theorem Ro(b:aJ):wm (.j6 b) a af H k=(match rm H (gv af b)with
 |some (cs,d)=>da cs.length λi=>match cs[i]? with|some c=>k (d c).1 (d c).2|none=>False
 |none=>False):=by show eO af b (λb=>Hz H b k)=_;rw[gJ];rfl
end
section
theorem zp(j:cC)(x:Prop)(y:Nat->Prop)(z:Prop):wn j x y z=(match j with|.none=>x|.exit i=>y i|.ret=>z):=by cases j<;>rfl
theorem Rp(v:AV)(t f:Prop):Dw v t f=(match v with|.bool true=>t|.bool false=>f|_=>False):=by cases v<;>(try rfl);rename_i b;cases b<;>rfl
theorem Jg(af:az AV)(d:Option ah)(v:AV)(k:az AV->Prop):AS af d v k=k (aQ af d v):=by cases d with|none=>rfl|some p=>exact sU _ _ _ _ _
theorem Rr(af:az AV)(H:ai)(l:List gN)(x:Prop):HD af H l x=if dQ af H l=true then x else False:=by cases l with|nil=>rfl|cons a l=>exact gk _ _ _
theorem Rt(af:az AV)(g:Option (ah×Bool))(x y:Prop):Dx af g x y=if d8 af g=true then x else if ka af g=true then y else False:=by cases g with|none=>rfl|some g=>show dG (d8 af (some g)) x (dG (ka af (some g)) y False)=_;simp[gk]
theorem Jh:∀(l:List AV)(p:ah)(t:az AV)(k:az AV->Prop),Dy l p t k=k (jL l p t)|[],_,_,_=>rfl|v::l,p,t,k=>by show uf .ai8 p v t (λt=>yI p λp=>Dy l p t k)=_;rw[sU,Eo,Jh l];rfl
theorem Et(af:az AV)(H:ai):∀(l:List gO)(k:List AV->Prop),yO af H l k=iJ (fH af H l) k|[],_=>rfl|.tmp p::l,k=>by show ue .ai8 p af (λv=>yO af H l λl=>k (v::l))=_;rw[wY,Et af H l];simp only[fH];cases fH af H l<;>rfl|.cell p g n::l,k=>by show ue .ai8 p af (λa=>iJ (gW H a n g) λv=>qh v λv=>yO af H l λl=>k (v::l))=_;rw[wY];simp only[fH];cases gW H (af.get .ai8 p) n g with|none=>rfl|some v=>rw[zn,uw,Et af H l];cases fH af H l<;>rfl
theorem Rv(l:List AV)(k:AV->Prop):Dz l k=k (gC l):=by match l with|[]=>rfl|[v]=>rfl|v::w::l=>rfl
theorem Rw(H:ai)(l:List ah)(k:ai->Prop):DA H l k=iJ (iI H l) k:=by cases l<;>rfl
def Eu(o:bR)(k:LK):Prop:=
 match o with
 |.loop st bU fn af a as bd d=>k st bU fn af a as bd d
 |_=>False
theorem zq(H:ai)(i:ah)(k:LK):rr H i k=Eu (H.get i) k:=by unfold rr;rw[Ep];cases H.get i<;>rfl
variable{ac:az aX}
structure zr(ac:az aX)(n:Nat):Prop where
 exec:∀c fr H K,(fi ac n).exec c fr H K=Go.al.exec False da (ac.br .none) n c fr H K
 aA:∀l fr H K,(fi ac n).aA l fr H K=Go.al.aA False da (ac.br .none) n l fr H K
 call:∀f args H K,(fi ac n).call f args H K=fC False da (ac.br .none) n f args H K
theorem Ji(h:zr ac n)(b:bw)(K:rq):wt (fi ac n) b K=λj fr H=>match j with|.none=>Go.al.exec False da (ac.br .none) n b fr H K|j=>K j fr H:=by funext j fr H;unfold wt;rw[zp,h.exec];cases j<;>rfl
theorem Rx(h:zr ac n)(c:bw)(fr:Fr)(H:ai)(K:rq):(fi ac (n+1)).exec c fr H K=Go.al.exec False da (ac.br .none) (n+1) c fr H K:=by
 cases c with
 |skip=>simp only[Go.al.exec];rfl
 |region l=>show(fi ac n).aA l fr H (K .none)=_;rw[h.aA];simp only[Go.al.exec]
 |seq a b=>show(fi ac n).exec a fr H (wt (fi ac n) b K)=_;rw[h.exec,Ji h];simp only[Go.al.exec];rfl
 |cond c a b=>show eO fr.af c (λv=>Dw v ((fi ac n).exec a fr H K) ((fi ac n).exec b fr H K))=_;rw[gJ,Rp,h.exec,h.exec];simp only[Go.al.exec];rfl
 |block id b=>show(fi ac n).exec b fr H (DB id K)=_;rw[h.exec];simp only[Go.al.exec];congr 1;funext j fr H;unfold DB;rw[zp];cases j with|none=>rfl|exit i=>exact gk _ _ _|ret=>rfl
 |loop b=>show(fi ac n).exec b fr H (wt (fi ac n) (.loop b) K)=_;rw[h.exec,Ji h];simp only[Go.al.exec];rfl
 |rangeFunc f e as bd=>
  have go:∀(fr:Fr)(H:ai)(d:ah)(af:az AV),wu (fi ac n) af e as bd (gv fr.af f) K fr H d=fC False da (ac.br .none) n (gv fr.af f) [.yield H.next] (H.new (.loop .ready .none 0 af e as bd d)) λ_ k=>match k.get H.next with
   |.loop st bU fn af e as bd d=>match st with|.busy=>False|_=>K bU fr (k.set H.next (.loop .exhausted bU fn af e as bd d))
   |_=>False:=by intro fr H d af;unfold wu;rw[sV,h.call];congr 1;funext v k;rw[zq];cases k.get H.next<;>(try rfl);rename_i st bU fn af e as bd d;unfold Eu DC;simp only[w6];cases st<;>rfl
  show eO fr.af f (λfv=>Option.rec (motive:=λ_=>Prop) (mN H (.deferred false) λm H=>wu (fi ac n) fr.af e as bd fv K ⟨fr.af,m::fr.bA,fr.bx⟩ H m) (λl=>rr H l λ_ _ _ _ _ _ _ d=>wu (fi ac n) fr.af e as bd fv K fr H d) fr.bx)=_;rw[gJ];simp only[Go.al.exec];cases o:fr.bx with|none=>show mN H (.deferred false) _=_;rw[sV];exact go ⟨fr.af,H.next::fr.bA,none⟩ (H.new (.deferred false)) H.next fr.af|some l=>show rr H l _=_;rw[zq];simp only;cases H.get l<;>(try rfl);exact go fr H _ fr.af
 |exit id=>simp only[Go.al.exec];rfl
 |ret=>simp only[Go.al.exec];rfl
 |eH t=>show pa .none ac t (λg=>aX.rec (motive:=λ_=>Prop) False (λ_ _ _=>False) (λ_=>False) (AU fr H K) g)=_;rw[wZ];simp only[Go.al.exec];cases ac.br .none t<;>(try rfl);rename_i g;show AU fr H K g=_;unfold AU;show iJ (g fr.af H) _=_;simp only;cases g fr.af H<;>rfl
theorem Ry(h:zr ac n)(l:List bD)(fr:Fr)(H:ai)(K:Fr->ai->Prop):(fi ac (n+1)).aA l fr H K=Go.al.aA False da (ac.br .none) (n+1) l fr H K:=by
 cases l with
 |nil=>simp only[Go.al.aA];rfl
 |cons o l=>
  show Dx fr.af o.guard (DD (fi ac n) o.op fr.af H o.iy (after (fi ac n) l K o.dst o.re fr.af fr.bA fr.bx)) (AS fr.af o.dst .ai8 λaf=>(fi ac n).aA l ⟨af,fr.bA,fr.bx⟩ H K)=_;rw[Rt,Jg,h.aA];simp only[Go.al.aA];congr 1;have c:∀(s:List (ah×bR))(v:AV)(H:ai),after (fi ac n) l K o.dst o.re fr.af fr.bA fr.bx v (dj H s)=if dQ (aQ fr.af o.dst v) (dj H s) o.re=true then Go.al.aA False da (ac.br .none) n l {fr with af:=aQ fr.af o.dst v} (dj H s) K else False:=by intro s v H;unfold after;rw[Jg,Rr,h.aA]
  have j:DD (fi ac n) o.op fr.af H o.iy (after (fi ac n) l K o.dst o.re fr.af fr.bA fr.bx)=wm o.op (fi ac n) fr.af (dF fr.af H o.iy).1 λv b=>after (fi ac n) l K o.dst o.re fr.af fr.bA fr.bx v (dj b (dF fr.af H o.iy).2):=by cases o.iy<;>rfl
  rw[j];have k:(λv b=>after (fi ac n) l K o.dst o.re fr.af fr.bA fr.bx v (dj b (dF fr.af H o.iy).2))=λv b=>if dQ (aQ fr.af o.dst v) (dj b (dF fr.af H o.iy).2) o.re=true then Go.al.aA False da (ac.br .none) n l {fr with af:=aQ fr.af o.dst v} (dj b (dF fr.af H o.iy).2) K else False:=by funext v b;exact c _ v b
  rw[k];split;·rename_i f args a;rw[a,Rn,h.call]
  .rename_i i a;rw[a,Ro];rfl
  rename_i d g;rw[Rm _ _ _ _ _ (by cases a:o.op<;>first|rfl|exact absurd a (d _ _)) (λi e=>g i e)];cases aH o.op fr.af (dF fr.af H o.iy).1<;>rfl
theorem Rz(h:zr ac n)(f:AV)(args:List AV)(H:ai)(K:KV):(fi ac (n+1)).call f args H K=fC False da (ac.br .none) (n+1) f args H K:=by
 cases f<;>(try(simp only[fC];rfl))
 .rename_i f first a;show pa .none ac f (λg=>mM (first++args++a) λall=>aX.rec (motive:=λ_=>Prop) False (AX (fi ac n) H K all) (AY H K all) (λ_=>False) g)=_;rw[wZ,qy];simp only[fC];cases ac.br .none f<;>(try rfl)
  .rename_i o k body;show AX (fi ac n) H K (first++args++a) o k body=_;unfold AX;rw[gk,rI,Jh,h.exec];simp only;congr 2;funext j fr H;have m:DE k K fr H=(match iI H fr.bA with
    |some H=>match fH fr.af H k with|some l=>K (gC l) H|none=>False
    |none=>False):=by show DA H fr.bA (λH=>yO fr.af H k λl=>Dz l λv=>K v H)=_;rw[Rw];cases iI H fr.bA with|none=>rfl|some q=>rw[zn,Et];simp only;cases fH fr.af q k with|none=>rfl|some l=>rw[zn,Rv]
   unfold HG;rw[zp,m];cases j<;>rfl
  rename_i g;show AY H K (first++args++a) g=_;unfold AY;simp only;cases g (first++args++a) H with|none=>rfl|some p=>exact uw p.1 λv=>K v p.2
 rename_i l;show DG (fi ac n) args H K l=_;unfold DG;rw[zq];simp only[fC];cases H.get l<;>(try rfl);rename_i st bU fn af b as bd d;show yP st (dG (ahr (lH args) (lH b)) ((fi ac n).exec as ⟨lZ b args af,[],some l⟩ H (yQ (fi ac n) l bd K)) False) False False=_;cases st<;>(try rfl);show dG (ahr (lH args) (lH b)) ((fi ac n).exec as ⟨lZ b args af,[],some l⟩ H (yQ (fi ac n) l bd K)) False=_;rw[gk,rI,rI,h.exec];simp only;have r:yQ (fi ac n) l bd K=λj fr H=>match j,H.get l with
  |.none,.loop .ready bU fn af b as c d=>Go.al.exec False da (ac.br .none) n bd fr (H.set l (.loop .busy bU fn af b as c d)) λj _ H=>match H.get l with
   |.loop _ _ fn af b as bd d=>match j with|.none=>K (.bool true) (H.set l (.loop .ready .none fn af b as bd d))|j=>K (.bool false) (H.set l (.loop .done j fn af b as bd d))
   |_=>False
  |_,_=>False:=by funext j fr H;unfold yQ;rw[zp];cases j with|none=>simp only;unfold HH;rw[zq];cases H.get l<;>(try rfl);rename_i st bU fn af b as c d;show yP st _ False False=_;cases st<;>(try rfl);show pb H l (.loop .busy bU fn af b as c d) (λH=>(fi ac n).exec bd fr H (DF l K))=_;rw[w6,h.exec];simp only;congr 1;funext j s H;unfold DF;rw[zq];cases H.get l<;>(try rfl);unfold Eu;simp only;rw[zp];cases j<;>simp only[w6]|exit i=>cases H.get l<;>rfl|ret=>cases H.get l<;>rfl
 rw[r];by_cases hl:args.length=b.length;·rw[aF (by rw[hl];exact ait _),aF hl];rfl
 rw[an (λe=>hl (ahn e)),an hl]
theorem Ev(ac:az aX):∀n,zr ac n|0=>⟨λc fr H K=>by rfl,λl fr H K=>by rfl,λf args H K=>by rfl⟩|n+1=>⟨Rx (Ev ac n),Ry (Ev ac n),Rz (Ev ac n)⟩
end
end Go.al.K
namespace Go.al
variable{A1 B H H' H2 Hs:ai}{O V appF collF e1 e2 iterF kb keysF listF n nt sortF sortedF u z:Nat}{C:cC->Fr->ai->Prop}{D:Fr->ai->Prop}{X:List bD}{Y s2:AV}{L:Fr}{body d x:bw}{h:KT}{f:List AV}{A q:az AV}{B1 N id pm w:ah}{J s:List ah}{P Q:Option ah}{I:List Nat}{r:List aV}{a ok_ om:aJ}{E ks ks2 l pks:List Int}{v:Int}{t:bD}{F:Program}{M w':World}{S b ρ:aP}{W:cq}{c:Nat->aX}{e:Type}{y:ah->List Int}{Z:Array Value}
section
variable{ac:Nat->aX}
structure By(ac:Nat->aX)(n:Nat):Prop where
 exec:∀{c fr H K K' m},n<=m->(∀j fr H,K j fr H->K' j fr H)->exec False da ac n c fr H K->exec False da ac m c fr H K'
 aA:∀{l fr H K K' m},n<=m->(∀fr H,K fr H->K' fr H)->Go.al.aA False da ac n l fr H K->Go.al.aA False da ac m l fr H K'
 call:∀{f args H K K' m},n<=m->(∀v H,K v H->K' v H)->fC False da ac n f args H K->fC False da ac m f args H K'
theorem RA(h:By ac n){o:cC->Fr->ai->Prop}(e:n<=O)(c:∀j L B,C j L B->o j L B)(he:exec False da ac (n+1) d L B C):exec False da ac (O+1) d L B o:=by
 cases d with
 |skip=>simp only[exec]at he⊢;exact c _ _ _ he
 |region l=>simp only[exec]at he⊢;exact h.aA e (c _) he
 |seq a b=>simp only[exec]at he⊢;refine h.exec e (λj L B hj=>?_) he;cases j with|none=>exact h.exec e c hj|exit i=>exact c _ _ _ hj|ret=>exact c _ _ _ hj
 |cond d a b=>
  simp only[exec]at he⊢;split at he;·exact h.exec e c he
  .exact h.exec e c he
  exact he.elim
 |block id b=>simp only[exec]at he⊢;refine h.exec e (λj L B hj=>?_) he;cases j with|none=>exact c _ _ _ hj|exit i=>simp only at hj⊢;split at hj<;>rename_i hi<;>simp only[hi,bg,bF,abH]<;>exact c _ _ _ hj|ret=>exact c _ _ _ hj
 |loop b=>simp only[exec]at he⊢;refine h.exec e (λj L B hj=>?_) he;cases j with|none=>exact h.exec e c hj|exit i=>exact c _ _ _ hj|ret=>exact c _ _ _ hj
 |rangeFunc f m as bd=>
  simp only[exec]at he⊢;have go:∀(L:Fr)(l:ah)(v:AV)(g:ai),(match g.get l with
   |.loop st bU fn af m as bd r=>match st with|.busy=>False|_=>C bU L (g.set l (.loop .exhausted bU fn af m as bd r))
   |_=>False)->(match g.get l with
   |.loop st bU fn af m as bd r=>match st with|.busy=>False|_=>o bU L (g.set l (.loop .exhausted bU fn af m as bd r))
   |_=>False):=by
   intro L l v g k;cases p:g.get l with
   |loop st bU fn af m as bd r=>rw[p]at k;cases st<;>first|exact k.elim|exact c _ _ _ k
   |_=>rw[p]at k;exact k.elim
  cases q:L.bx with
  |none=>rw[q]at he;exact h.call e (λv g k=>go _ _ v g k) he
  |some l=>
   rw[q]at he;simp only at he⊢;split at he;·exact h.call e (λv g k=>go _ _ v g k) he
   exact he.elim
 |exit id=>simp only[exec]at he⊢;exact c _ _ _ he
 |ret=>simp only[exec]at he⊢;exact c _ _ _ he
 |eH t=>
  simp only[exec]at he⊢;split at he
  .split at he;·exact c _ _ _ he
   exact he.elim
  exact he.elim
theorem RB(h:By ac n){c:Fr->ai->Prop}(d:n<=O)(e:∀L B,D L B->c L B)(he:Go.al.aA False da ac (n+1) X L B D):Go.al.aA False da ac (O+1) X L B c:=by
 cases X with
 |nil=>simp_all[Go.al.aA]
 |cons o X=>
  simp only[Go.al.aA]at he⊢;have b:∀(s:List (ah×bR))(v:AV)(B:ai),(if dQ (aQ L.af o.dst v) (dj B s) o.re=true then Go.al.aA False da ac n X {L with af:=aQ L.af o.dst v} (dj B s) D else False)->(if dQ (aQ L.af o.dst v) (dj B s) o.re=true then Go.al.aA False da ac O X {L with af:=aQ L.af o.dst v} (dj B s) c else False):=by
   intro s v B a;split at a;·rename_i f;rw[aF f];exact h.aA d e a
   exact a.elim
  split at he
  .rename_i hg;rw[aF hg];split at he;·exact h.call d (λv g a=>b _ v g a) he
   all_goals grind
  rename_i hg;rw[an hg];split at he;·rename_i hd;rw[aF hd];exact h.aA d e he
  grind
theorem RC(g:By ac n){e:KT}(a:n<=O)(b:∀v B,h v B->e v B)(he:fC False da ac (n+1) Y f B h):fC False da ac (O+1) Y f B e:=by
 cases Y<;>(try(simp only[fC]at he;done))
 .simp only[fC]at he⊢;split at he;·omega
  .omega
  .grind
  split at he;·rename_i c;rw[aF c];refine g.exec a (λj fr B hj=>?_) he;grind
  grind
 rename_i l;simp only[fC]at he⊢;split at he
 .split at he
  .split at he
   .rename_i hl;rw[aF hl];refine g.exec a (λj fr B hj=>?_) he;split at hj
    .refine g.exec a (λj fr B hj=>?_) hj;split at hj
     .split at hj;·exact b _ _ hj
      cases j<;>first|exact b _ _ hj|skip
      all_goals first|exact b _ _ hj|(rename_i d;exact absurd rfl d)
     exact hj.elim
    exact hj.elim
   exact he.elim
  exact he.elim
 exact he.elim
theorem mono(ac:Nat->aX):∀n,By ac n|0=>⟨λ_ _ he=>by trivial,λ_ _ he=>by trivial,λ_ _ he=>by trivial⟩|n+1=>by have h:=mono ac n;refine⟨λb a he=>?_,λb a he=>?_,λb a he=>?_⟩;all_goals rename_i m;cases m with|zero=>omega|succ m=>first|exact RA h aa a he|exact RB h aa a he|exact RC h aa a he
end
section
variable[Ov]
variable{ac:Nat->aX}
abbrev Xc(ac:Nat->aX)(n:Nat)(c:bw)(fr:Fr)(H:ai)(K:cC->Fr->ai->Prop):Prop:=exec False da ac n c fr H K
abbrev Xo(ac:Nat->aX)(n:Nat)(l:List bD)(fr:Fr)(H:ai)(K:Fr->ai->Prop):Prop:=Go.al.aA False da ac n l fr H K
abbrev Xf(ac:Nat->aX)(n:Nat)(f:AV)(args:List AV)(H:ai)(K:KT):Prop:=fC False da ac n f args H K
theorem Xo.nil(h:D L B):Xo ac (n+1) [] L B D:=by trivial
theorem Xo.op{op:bJ}{v:AV}(he:aH op A B=some (v,H'))(h:Xo ac n X ⟨aQ A Q v,J,P⟩ H' D):Xo ac (n+1) (⟨Q,op,none,[],[]⟩::X) ⟨A,J,P⟩ B D:=by simp only[Xo,Go.al.aA,d8,dF,dj,dQ,bg];grind[aH]
theorem Xo.next{cs:List (Option aV)}{aft:Option aV->AV×ai}(he:rm B (gv A a)=some (cs,aft))(h:∀c∈cs,Xo ac n X ⟨aQ A Q (aft c).1,J,P⟩ (aft c).2 D):Xo ac (n+1) (⟨Q,.j6 a,none,[],[]⟩::X) ⟨A,J,P⟩ B D:=by simp only[Xo,Go.al.aA,d8,dF,dj,dQ,bg,he];grind
theorem Xo.call{args:List aJ}{K:Fr->ai->Prop}(h:Xf ac n (gv A a) (args.map (gv A)) B λv b=>Xo ac n X ⟨aQ A Q v,J,P⟩ b K):Xo ac (n+1) (⟨Q,.call a args,none,[],[]⟩::X) ⟨A,J,P⟩ B K:=by trivial
theorem Xc.region(h:Xo ac n X L B (C .none)):Xc ac (n+1) (.region X) L B C:=by trivial
theorem Xc.seq(h:Xc ac n d L B λj L B=>match j with|.none=>Xc ac n x L B C|j=>C j L B):Xc ac (n+1) (.seq d x) L B C:=by trivial
theorem Xc.mono{m:Nat}(h:n<=m){fr:Fr}{K:cC->Fr->ai->Prop}(a:∀j fr B,K j fr B->C j fr B)(he:Xc ac n d fr B K):Xc ac m d fr B C:=(Go.al.mono ac n).exec h a he
theorem Xo.mono{m:Nat}(h:n<=m){fr:Fr}{K:Fr->ai->Prop}(a:∀fr B,K fr B->D fr B)(he:Xo ac n X fr B K):Xo ac m X fr B D:=(Go.al.mono ac n).aA h a he
theorem Xf.mono{m:Nat}(b:n<=m){K:KT}(a:∀v B,K v B->h v B)(he:Xf ac n Y f B K):Xf ac m Y f B h:=(Go.al.mono ac n).call b a he
theorem Xc.loop(h:Xc ac n d L B λj L B=>match j with|.none=>Xc ac n (.loop d) L B C|j=>C j L B):Xc ac (n+1) (.loop d) L B C:=by trivial
theorem Xc.mU(b:gv L.af a=.bool true)(h:Xc ac n d L B C):Xc ac (n+1) (.cond a d x) L B C:=by simp[b,h,Xc,exec]
theorem Xc.lJ(b:gv L.af a=.bool false)(h:Xc ac n d L B C):Xc ac (n+1) (.cond a x d) L B C:=by simp[b,h,Xc,exec]
theorem Xc.block(h:Xc ac n d L B λj L B=>match j with|.exit i=>if ahr i O then C .none L B else C (.exit i) L B|j=>C j L B):Xc ac (n+1) (.block O d) L B C:=by trivial
theorem Xc.skip(h:C .none L B):Xc ac (n+1) .skip L B C:=by trivial
theorem Xc.exit(h:C (.exit O) L B):Xc ac (n+1) (.exit O) L B C:=by trivial
theorem Xc.ret(h:C .ret L B):Xc ac (n+1) .ret L B C:=by trivial
theorem Xc.hZ{m:Nat}{k:Nat}(a:n<=k)(b:m<=k)(h:Xc ac n d L B λj L B=>match j with|.none=>Xc ac m x L B C|j=>C j L B):Xc ac (k+1) (.seq d x) L B C:=by refine Xc.seq (h.mono a λj L B hj=>?_);cases j with|none=>exact hj.mono b λ_ _ _ h=>h|exit i=>omega|ret=>omega
def pz(a c:Nat)(d b ok e ex kv:ah)(body:bw):bw:=
 .block a (.loop (.seq (.region [⟨some b,.j6 (.t d),none,[],[]⟩,⟨some ok,.extract (.t b) 0,none,[],[]⟩])
   (.seq (.cond (.t ok) .skip (.exit a)) (.block c (.seq (.region [⟨some e,.ri (.t d),none,[],[]⟩,⟨some ex,.extract (.t e) 0,none,[],[]⟩,⟨some kv,.bf (.t ex),none,[],[]⟩]) body)))))
theorem Jj:∀{es:List aV}{e:aV}(i0:Nat),e∈es->(es.map (·.born)).Nodup->∃i,pY e.born es i0=some (i0+i)/\es[i]?=some e
 |[],_,_,h,_=>by grind
 |a::es,e,i0,h,b=>by
  rw[ahk,ahT]at b;rcases ac2.1 h with h|h;·simp[h,pY,ait]
  have c:¬a.born=e.born:=λhe=>b.1 (by rw[he];exact ahG h);have⟨i,h1,h2⟩:=Jj (i0+1) h b.2;refine⟨i+1,?_,by grind⟩;have:ahr a.born e.born=false:=by cases hb:ahr a.born e.born with|false=>rfl|true=>exact absurd (ahn hb) c
  simp only[pY,this,abH,bF,h1];grind
def jm(es:List aV)(seen:List Nat):List aV:=es.filter λe=>!seen.contains e.born
theorem RD{e:aV}(he:e∈jm r I):(jm r (I++[e.born])).length<(jm r I).length:=by
 have h1:jm r (I++[e.born])=(jm r I).filter λx=>!(x.born==e.born):=by simp only[jm,List.filter_filter];congr 1;funext x;simp only[List.contains_append,Bool.not_or,List.contains_cons,List.contains_nil,Bool.or_false];rw[Bool.and_comm]
 rw[h1];refine List.length_filter_lt_length_iff_exists.2 ⟨e,he,aC⟩
theorem Jk(hi:B.get N=.mapIter (some w) n I n)(f:B.get w=.map r n)(b:∀e∈r,e.born<n):∃d,rm B (.aD N 0)=some ((if(jm r I).isEmpty then[none]else[])++(jm r I).map some,d)/\d none=(.tuple [.bool false],B)/\∀e,d (some e)=(.tuple [.bool true,e.key,e.val],B.set N (.mapIter (some w) n (I++[e.born]) n)):=by
 have eC:¬((!I.isEmpty&&!r.isEmpty&&r.all λe=>aih n e.born)=true):=by intro h;simp only[ahl,aiv]at h;cases r with|nil=>simp at h|cons a r=>have:=aht (h.2 a (acj ..));have:=b a (acj ..);omega
 have h1:(jm r I).filter (λe=>ahO e.born n)=jm r I:=List.filter_eq_self.2 λe he=>ai5 aib (b e (aiR.1 he).1);have h2:(jm r I).filter (λe=>!ahO e.born n)=[]:=List.filter_eq_nil_iff.2 λe he=>by have:ahO e.born n=true:=ai5 aib (b e (aiR.1 he).1);simp[this]
 refine⟨λc=>match c with|some e=>(.tuple [.bool true,e.key,e.val],B.set N (.mapIter (some w) n (I++[e.born]) n))|none=>(.tuple [.bool false],B),?_,rfl,λe=>rfl⟩;simp only[rm,hi,f];rw[an eC];show some ((if((jm r I).filter (λe=>ahO e.born n)).isEmpty then[none]else[])++((jm r I).filter (λe=>ahO e.born n)++(jm r I).filter (λe=>!ahO e.born n)).map some,_)=_;grind
theorem Jl{ex kv:ah}(ag:V≠u)(T:N≠w)(W:N≠B1)(d3:w≠B1)(d5:pm≠ex){m:ah}(hb:(r.map (·.born)).Nodup)(q:∀e∈r,e.born<O){K:cC->Fr->ai->Prop}(I:List Nat->az AV->ai->Prop)(s:∀seen af H,I seen af H->af.get .ai8 N=.aD id 0/\H.get id=.mapIter (some m) O seen O/\H.get m=.map r O)(b:Nat)(step:∀seen af H e,I seen af H->e∈r->e.born∉seen->Xc ac b d ⟨((((af.set .ai8 w (.tuple [.bool true,e.key,e.val])).set .ai8 B1 (.bool true)).set .ai8 pm (.tuple [e.key,e.val])).set .ai8 ex e.key).set .ai8 kv e.key,J,Q⟩ (H.set id (.mapIter (some m) O (seen++[e.born]) O)) λj fr H'=>j=.none/\fr.bA=J/\fr.bx=Q/\I (seen++[e.born]) fr.af H')(aq:∀seen af H,I seen af H->(∀e∈r,e.born∈seen)->K .none ⟨(af.set .ai8 w (.tuple [.bool false])).set .ai8 B1 (.bool false),J,Q⟩ H):∀(k:Nat)seen af H,I seen af H->(jm r seen).length<=k->Xc ac (b+15+k) (pz V u N w B1 pm ex kv d) ⟨af,J,Q⟩ H K:=by
 have y:∀(k:Nat)seen af H,I seen af H->(jm r seen).length<=k->Xc ac (b+14+k) (.loop (.seq (.region [⟨some w,.j6 (.t N),none,[],[]⟩,⟨some B1,.extract (.t w) 0,none,[],[]⟩]) (.seq (.cond (.t B1) .skip (.exit V)) (.block u (.seq (.region [⟨some pm,.ri (.t N),none,[],[]⟩,⟨some ex,.extract (.t pm) 0,none,[],[]⟩,⟨some kv,.bf (.t ex),none,[],[]⟩]) d))))) ⟨af,J,Q⟩ H λj fr H=>j=.exit V/\K .none fr H:=by
  intro k;induction k with
  |zero=>intro seen af H o A;have⟨h1,h2,h3⟩:=s seen af H o;have⟨D,z,B,a3⟩:=Jk h2 h3 q;have f:jm r seen=[]:=ahz aa;rw[f]at z;refine Xc.loop (n:=b+13) ?_;refine Xc.seq (n:=b+12) (Xc.region (n:=b+11) (Xo.next (n:=b+10) (by rw[show gv af (.t N)=af.get .ai8 N from rfl,h1];exact z) ?_));intro c g;simp only[List.isEmpty_nil,bg,aiz,ah8,abt]at g;subst g;rw[B];refine Xo.op (n:=b+9) (v:=.bool false) (H':=H) (by simp[aH,gv,aQ,az.aG,nI]) (Xo.nil (n:=b+8) (Xc.seq (n:=b+11) (Xc.lJ (n:=b+10) (by simp[gv,aQ,az.aG]) (Xc.exit (n:=b+9) ⟨by trivial,aq seen af H o λe he=>?_⟩))));apply ahF;intro p;have:e∈jm r seen:=aiR.2 ⟨he,by simpa using p⟩;rw[f]at this;cases this
  |succ k X=>
   intro seen af H o A;have⟨h1,h2,h3⟩:=s seen af H o;have⟨D,z,B,a3⟩:=Jk h2 h3 q;refine Xc.loop (n:=b+14+k) ?_;refine Xc.mono (n:=b+14) (K:=λj fr H=>match j with|.none=>exec False da ac (b+14+k) (.loop (.seq (.region [⟨some w,.j6 (.t N),none,[],[]⟩,⟨some B1,.extract (.t w) 0,none,[],[]⟩]) (.seq (.cond (.t B1) .skip (.exit V)) (.block u (.seq (.region [⟨some pm,.ri (.t N),none,[],[]⟩,⟨some ex,.extract (.t pm) 0,none,[],[]⟩,⟨some kv,.bf (.t ex),none,[],[]⟩]) d))))) fr H λj fr H=>j=.exit V/\K .none fr H|j=>j=.exit V/\K .none fr H) aa (λ_ _ _ h=>h) ?_;refine Xc.seq (n:=b+13) (Xc.region (n:=b+12) (Xo.next (n:=b+11) (by rw[show gv af (.t N)=af.get .ai8 N from rfl,h1];exact z) ?_));intro c g;cases c with
   |none=>
    have f:jm r seen=[]:=by cases hu:jm r seen with|nil=>rfl|cons a l=>rw[hu]at g;simp at g
    rw[B];refine Xo.op (n:=b+10) (v:=.bool false) (H':=H) (by simp[aH,gv,aQ,az.aG,nI]) (Xo.nil (n:=b+9) (Xc.seq (n:=b+12) (Xc.lJ (n:=b+11) (by simp[gv,aQ,az.aG]) (Xc.exit (n:=b+10) ⟨by trivial,aq seen af H o λe he=>?_⟩))));apply ahF;intro p;have:e∈jm r seen:=aiR.2 ⟨he,by simpa using p⟩;rw[f]at this;cases this
   |some e=>
    have n:e∈jm r seen:=by
     rw[ac6]at g;rcases g with g|g;·split at g<;>simp at g
     rw[ahm]at g;have⟨x,Y,C⟩:=g;injection C with C;subst C;exact Y
    have jP:e∈r:=(aiR.1 n).1;have E:e.born∉seen:=by have:=(aiR.1 n).2;simpa using this
    rw[a3];refine Xo.op (n:=b+10) (v:=.bool true) (H':=H.set id (.mapIter (some m) O (seen++[e.born]) O)) (by simp[aH,gv,aQ,az.aG,nI]) (Xo.nil (n:=b+9) (Xc.seq (n:=b+12) (Xc.mU (n:=b+11) (by simp[gv,aQ,az.aG]) (Xc.skip (n:=b+10) (Xc.block (n:=b+11) ?_)))));have⟨i,v,F⟩:=Jj 0 jP hb;rw[ahw]at v;have G:id≠m:=λe=>by rw[e,h3]at h2;cases h2
    have L:(H.set id (.mapIter (some m) O (seen++[e.born]) O)).get id=.mapIter (some m) O (seen++[e.born]) O:=by rw[ai.aG,aF rfl]
    have M:(H.set id (.mapIter (some m) O (seen++[e.born]) O)).get m=.map r O:=by rw[ai.aG,an (λh=>G h.symm)];exact h3
    refine Xc.seq (n:=b+10) (Xc.region (n:=b+9) (Xo.op (n:=b+8) (v:=.tuple [e.key,e.val]) (H':=H.set id (.mapIter (some m) O (seen++[e.born]) O)) ?_ ?_));·simp only[aH,gv,aQ,az.aG,an W,an T,h1,L,M,List.getLast?_append,List.getLast?_singleton,Option.some_or,ait,bg,v,F]
    refine Xo.op (n:=b+7) (v:=e.key) (H':=H.set id (.mapIter (some m) O (seen++[e.born]) O)) (by simp[aH,gv,aQ,az.aG,nI]) (Xo.op (n:=b+6) (v:=e.key) (H':=H.set id (.mapIter (some m) O (seen++[e.born]) O)) (by simp[aH,gv,aQ,az.aG]) (Xo.nil (n:=b+5) (Xc.mono (n:=b) (m:=b+10) aa ?_ (step seen af H e o jP E))));rintro j fr H'⟨rfl,R,S,Z⟩;have P:fr=⟨fr.af,J,Q⟩:=by cases fr;simp only at R S;subst R;subst S;rfl
    rw[P];refine X (seen++[e.born]) fr.af H' Z ?_;have:=RD n;omega
 intro k seen af H o A;rw[show b+15+k=b+14+k+1 by omega];refine Xc.block (n:=b+14+k) (Xc.mono (aeE _) ?_ (y k seen af H o A));simp_all
end
section
def Ew:AV->AV->Bool
 |.bool a,.bool b=>a==b
 |.int j (.ofNat a),.int k (.ofNat b)=>ahr j k&&ahr a b
 |.cP,.cP=>true
 |.bj,.bj=>true
 |_,_=>false
def iO:aJ->aJ->Bool
 |.t p,.t q=>ah.beq p q
 |.c a,.c b=>Ew a b
 |_,_=>false
def w8:List aJ->List aJ->Bool
 |[],[]=>true
 |a::l,b::m=>iO a b&&w8 l m
 |_,_=>false
def Ex:bJ->bJ->Bool
 |.bf x,.bf y=>iO x y
 |.extract x i,.extract y j=>iO x y&&ahr i j
 |.ri x,.ri y=>iO x y
 |.j6 x,.j6 y=>iO x y
 |.lX x,.lX y=>iO x y
 |.aW x,.aW y=>iO x y
 |.dH s x i,.dH t y j=>ahr s t&&iO x y&&iO i j
 |.arith .neq k x i,.arith .neq l y j=>ahr k l&&iO x y&&iO i j
 |.jK .int x i u,.jK .int y j v=>iO x y&&iO i j&&iO u v
 |.eq a .map x i,.eq b .map y j=>(a==b)&&iO x y&&iO i j
 |.ky,.ky=>true
 |.store n x i,.store m y j=>ahr n m&&iO x y&&iO i j
 |.iX n x,.iX m y=>ahr n m&&iO x y
 |.iY x,.iY y=>iO x y
 |.call f l,.call g m=>iO f g&&w8 l m
 |_,_=>false
def Ey:Option ah->Option ah->Bool
 |none,none=>true
 |some p,some q=>ah.beq p q
 |_,_=>false
def Ez:bD->bD->Bool
 |⟨d,o,none,[],[]⟩,⟨e,p,none,[],[]⟩=>Ey d e&&Ex o p
 |_,_=>false
def w9:List bD->List bD->Bool
 |[],[]=>true
 |a::l,b::m=>Ez a b&&w9 l m
 |_,_=>false
def kF:bw->bw->Bool
 |.skip,.skip=>true
 |.region l,.region m=>w9 l m
 |.seq a b,.seq c d=>kF a c&&kF b d
 |.cond x a b,.cond y c d=>iO x y&&kF a c&&kF b d
 |.block i a,.block j b=>ahr i j&&kF a b
 |.loop a,.loop b=>kF a b
 |.exit i,.exit j=>ahr i j
 |.eH i,.eH j=>ahr i j
 |_,_=>false
theorem RE(h:Ew Y s2=true):Y=s2:=by unfold Ew at h;split at h;all_goals simp_all
theorem mV(h:iO a ok_=true):a=ok_:=by unfold iO at h;grind[ah.ft,RE]
theorem Jn:∀{l m:List aJ},w8 l m=true->l=m|[],[],_=>rfl|a::l,b::m,h=>by simp only[w8,ahl]at h;rw[mV h.1,Jn h.2]|[],_::_,h=>by simp[w8]at h|_::_,[],h=>by simp[w8]at h
theorem RF{a b:bJ}(h:Ex a b=true):a=b:=by unfold Ex at h;split at h<;>(try simp only[ahl,beq_iff_eq]at h)<;>first|(cases h;done)|rfl|(rw[mV h];done)|(rw[mV h.1,ahn h.2];done)|(rw[ahn h.1.1,mV h.1.2,mV h.2];done)|(rw[mV h.1.1,mV h.1.2,mV h.2];done)|(rw[h.1.1,mV h.1.2,mV h.2];done)|(rw[ahn h.1,mV h.2];done)|(rw[mV h.1,Jn h.2];done)
theorem RG(h:Ey Q P=true):Q=P:=by unfold Ey at h;grind[ah.ft]
theorem RH{b:bD}(h:Ez t b=true):t=b:=by
 unfold Ez at h;split at h;·simp only[ahl]at h;grind[RG,RF]
 grind
theorem Jo:∀{l m:List bD},w9 l m=true->l=m|[],[],_=>rfl|a::l,b::m,h=>by simp only[w9,ahl]at h;rw[RH h.1,Jo h.2]|[],_::_,h=>by simp[w9]at h|_::_,[],h=>by simp[w9]at h
theorem RI:∀{a b:bw},kF a b=true->a=b:=by intro a;induction a with|skip=>intro b h;cases b<;>simp[kF]at h;rfl|region l=>intro b h;cases b<;>simp[kF]at h;rw[Jo h]|seq x y d e=>intro b h;cases b<;>simp[kF]at h;rw[d h.1,e h.2]|cond c x y d e=>intro b h;cases b<;>simp[kF]at h;rw[mV h.1.1,d h.1.2,e h.2]|block i x g=>intro b h;cases b<;>simp[kF]at h;rw[h.1,g h.2]|loop x g=>intro b h;cases b<;>simp[kF]at h;rw[g h]|exit i=>intro b h;cases b<;>simp[kF]at h;rw[h]|eH i=>intro b h;cases b<;>simp[kF]at h;rw[h]|rangeFunc f j as bd _ _=>intro b h;cases b<;>simp[kF]at h|ret=>intro b h;cases b<;>simp[kF]at h
def xe(b:bw):List (Nat×bw)->Option Nat
 |[]=>none
 |(t,c)::l=>if kF b c then some t else xe b l
def zt(t:Nat):List (Nat×bw)->bw
 |[]=>.skip
 |(u,c)::l=>if ahr u t then c else zt t l
theorem RK(l:List (Nat×bw))(a:(l.map (·.1)).Nodup)(b:bw)(t:Nat)(h:xe b l=some t):b=zt t l:=by
 induction l with
 |nil=>trivial
 |cons p l d=>
  have⟨u,c⟩:=p;simp only[xe]at h;rw[ahk,ahT]at a;split at h;·rename_i he;injection h with h;subst h;simp only[zt,ait,bg];exact RI he
  have e:t∈l.map (·.1):=by
   clear d a;induction l with
   |nil=>simp[xe]at h
   |cons q l d=>
    have⟨g,c2⟩:=q;simp only[xe]at h;split at h;·injection h with h;subst h;simp
    exact ab8 _ (d h)
  have f:ahr u t=false:=by cases hb:ahr u t with|false=>rfl|true=>exact absurd (ahn hb▸e) a.1
  simp_all[zt,abH,bF]
@[reducible]def RL(l:List (Nat×bw))(a:(l.map (·.1)).Nodup):Ov:=⟨λb=>xe b l,λt=>zt t l,RK l a⟩
def dC:bR->Option (List aV)
 |.map es _=>some es
 |.cK es=>some es
 |_=>none
def iB:List aV->Option (List Int)
 |[]=>some []
 |e::es=>match e.key,iB es with
  |.int 3 k,some l=>some (k::l)
  |_,_=>none
def rJ:List aV->Option (List Int)
 |[]=>some []
 |e::es=>match e.key,e.val,rJ es with
  |.int 3 k,.bool true,some l=>some (k::l)
  |_,_,_=>none
def fP(x:Int):List Int->Bool
 |[]=>false
 |y::l=>gz x y||fP x l
def zu:List Int->Bool
 |[]=>true
 |x::l=>!fP x l&&zu l
def mW(x:Int)(l:List Int):List Int:=if fP x l then l else l++[x]
def eX:List Int->List Int->List Int
 |[],l=>l
 |x::a,l=>eX a (mW x l)
def dt(l:List Int):List aV:=l.map λk=>⟨.int 3 k,.bool true,0⟩
def jn(af:az AV):List ah->az AV
 |[]=>af
 |p::l=>jn (af.set .ai8 p .bQ) l
def iC(H:ai)(i:ah):Option (List Int):=
 match dC (H.get i)with
 |some es=>match rJ es with
  |some l=>if zu l then some l else none
  |none=>none
 |none=>none
def iD(H:ai)(i:ah):Option (List Int):=
 match dC (H.get i)with
 |some es=>match iB es with
  |some l=>if zu l then some l else none
  |none=>none
 |none=>none
def aY(H:ai)(i:ah)(o:Nat):Option AV:=
 match H.get i with
 |.cells c n _ _ _ _=>if ahO o n then some (c.br .ai8 o)else none
 |_=>none
def l9(H:ai):AV->Option AV
 |.aD i o=>aY H i o
 |_=>none
def kg(H:ai)(s:AV)(x:Int):Option AV:=
 match s,x with
 |.slice i o n _ _,.ofNat j=>if ahO j n then aY H i (o+j)else none
 |_,_=>none
def rL(H:ai)(s:AV):List Int->Option (List Int)
 |[]=>some []
 |x::l=>match kg H s x,rL H s l with
  |some (.int 3 r),some a=>some (r::a)
  |_,_=>none
def ai.skip(H:ai):ai:=⟨H.t,H.next.succ⟩
variable[Ov]
theorem qz(x:Int):∀l:List Int,fP x l=true↔x∈l|[]=>by simp[fP]|y::l=>by simp only[fP,aij,qz x l,ac2];simp[dW]
theorem ux:∀l:List Int,zu l=true↔l.Nodup|[]=>by trivial|x::l=>by simp only[zu,ahl,ah3,ux l,ahT,<-qz];simp
theorem zw(x y:Int)(l:List Int):y∈mW x l↔y=x\/y∈l:=by unfold mW;split;all_goals simp_all[qz,id,or_comm]
theorem RM(h:E.Nodup):(mW v E).Nodup:=by grind[mW,qz,List.nodup_append,List.mem_singleton]
theorem lL(y:Int):∀(a l:List Int),y∈eX a l↔y∈a\/y∈l|[],l=>by simp[eX]|x::a,l=>by simp only[eX,lL y a,zw,ac2];grind
theorem nR:∀(a:List Int){l:List Int},l.Nodup->(eX a l).Nodup|[],_,h=>h|_::a,_,h=>nR a (RM h)
end
abbrev sl(t:Nat):ah:=ah.cV t
abbrev bG(d:Nat)(o:bJ):bD:=⟨some (sl d),o,none,[],[]⟩
abbrev pg(o:bJ):bD:=⟨none,o,none,[],[]⟩
abbrev tt(a:Nat):aJ:=.t (sl a)
def RN:bw:=.region [bG 42 (.bf (tt 6)),bG 43 (.aW (tt 4)),bG 44 (.bf (tt 7)),bG 45 (.dH 1 (tt 43) (tt 44)),bG 46 (.aW (tt 45)),pg (.jK .int (tt 42) (tt 46) (.c (.bool true)))]
def RP:bw:=.region [bG 33 (.aW (tt 3)),bG 34 (.bf (tt 5)),bG 35 (.dH 1 (tt 33) (tt 34)),bG 36 (.aW (tt 35)),bG 37 (.lX (tt 36))]
def RQ:bw:=pz 2 3 (sl 37) (sl 38) (sl 39) (sl 40) (sl 41) (sl 7) RN
def RR:bw:=.seq RP RQ
def xf:List ah:=[sl 7,sl 33,sl 34,sl 35,sl 36,sl 37,sl 38,sl 39,sl 40,sl 41,sl 42,sl 43,sl 44,sl 45,sl 46]
def zx(af:az AV)(H:ai):Option (az AV×ai):=
 match l9 H (af.get .ai8 (sl 3)),af.get .ai8 (sl 5),l9 H (af.get .ai8 (sl 4)),af.get .ai8 (sl 6)with
 |some a,.int _ v,some b,.map N=>match kg H a v with
  |some (.map m)=>if ah.beq m N then none else match iD H m,iC H N with
   |some ks,some t0=>match rL H b ks with
    |some c=>some (jn af xf,(H.set N (.cK (dt (eX c t0)))).skip)
    |none=>none
   |_,_=>none
  |_=>none
 |_,_,_,_=>none
def RS:bw:=.seq (.region [bG 37 (.bf (tt 6)),bG 38 (.bf (tt 5)),bG 39 (.arith .neq 3 (tt 37) (tt 38))])
  (.cond (tt 39) (.region [bG 40 (.aW (tt 3)),bG 41 (.bf (tt 5)),bG 42 (.dH 1 (tt 40) (tt 41)),bG 43 (.aW (tt 42)),bG 44 (.bf (tt 6)),pg (.jK .int (tt 43) (tt 44) (.c (.bool true)))]) .skip)
def RT:bw:=.region [bG 31 (.bf (tt 4)),bG 32 (.lX (tt 31))]
def RU:bw:=pz 4 5 (sl 32) (sl 33) (sl 34) (sl 35) (sl 36) (sl 6) RS
def RV:bw:=.seq RT RU
def rM:List ah:=[sl 6,sl 31,sl 32,sl 33,sl 34,sl 35,sl 36,sl 37,sl 38,sl 39,sl 40,sl 41,sl 42,sl 43,sl 44]
def fV(v:Int):List Int->List Int
 |[]=>[]
 |x::l=>if gz x v then fV v l else x::fV v l
def uy(af:az AV)(H:ai):Option (az AV×ai):=
 match af.get .ai8 (sl 4),af.get .ai8 (sl 5),l9 H (af.get .ai8 (sl 3))with
 |.map m,.int 3 v,some a=>match kg H a v with
  |some (.map N)=>if ah.beq m N then none else match iD H m,iC H N with
   |some ks,some t0=>some (jn af rM,(H.set N (.cK (dt (eX (fV v ks) t0)))).skip)
   |_,_=>none
  |_=>none
 |_,_,_=>none
def Jp:bw:=.seq (.seq (.region [bG 22 (.aW (tt 3)),bG 23 (.bf (tt 5)),bG 24 (.dH 1 (tt 22) (tt 23)),bG 25 (.aW (tt 24)),bG 26 (.eq false .map (tt 25) (.c .cP))])
   (.cond (tt 26) (.region [bG 27 (.aW (tt 3)),bG 28 (.bf (tt 5)),bG 29 .ky,bG 30 (.dH 1 (tt 27) (tt 28)),pg (.store 1 (tt 30) (tt 29))]) .skip)) (.eH 1001)
def RW:bw:=.region [bG 16 (.bf (tt 4)),bG 17 (.lX (tt 16))]
def RX:bw:=pz 2 3 (sl 17) (sl 18) (sl 19) (sl 20) (sl 21) (sl 5) Jp
def RY:bw:=.seq RW RX
def nS:List ah:=[sl 5,sl 6]++(ahq 29).map λi=>sl (16+i)
def sW(c:az AV)(o n:Nat)(m:ah)(ks:List Int)(b:ai):List Int->az AV->ai->Option (az AV×ai)
 |[],a,H'=>some (a,H')
 |k::l,a,H'=>
  match k with
  |.ofNat j=>if ahO j n then match c.br .ai8 (o+j)with
    |.cP=>sW c o n m ks b l (ez a (o+j) [.map H'.next]) (H'.new (.cK (dt (fV k ks))))
    |.map N=>if ah.beq N m then none else match iC b N with
     |some t0=>sW c o n m ks b l a (H'.set N (.cK (dt (eX (fV k ks) t0))))
     |none=>none
    |_=>none
   else none
  |_=>none
def jD(c:az AV)(o:Nat):List Int->List ah
 |[]=>[]
 |k::l=>match c.br .ai8 (o+k.toNat)with
  |.map N=>N::jD c o l
  |_=>jD c o l
def xg(p:ah):List ah->Bool
 |[]=>false
 |q::l=>ah.beq p q||xg p l
def Bz:List ah->Bool
 |[]=>true
 |p::l=>!xg p l&&Bz l
def zy(af:az AV)(H:ai):Option (az AV×ai):=
 match af.get .ai8 (sl 4),af.get .ai8 (sl 3)with
 |.map m,.aD a o3=>match aY H a o3 with
  |some (.slice i o n _ _)=>match iC H m,H.get i with
   |some ks,.cells c b e true [] fz=>if !ah.beq a i&&aih fz o&&aih (o+n) b&&Bz (jD c o ks)then
     match sW c o n m ks H ks c H with
     |some (d,H')=>some (jn af nS,((H'.set i (.cells d b e true [] fz)).set m (.cK (dt ks))).skip)
     |none=>none
    else none
   |_,_=>none
  |_=>none
 |_,_=>none
def RZ:bw:=.region [bG 62 (.aW (tt 11)),bG 63 (.bf (tt 16)),bG 64 (.iX 1 (tt 7)),bG 65 (.aW (tt 64)),bG 66 (.iY (tt 65)),bG 67 (.call (tt 62) [tt 63,tt 66])]
def Jq:bw:=.region [bG 53 (.aW (tt 5)),bG 54 (.bf (tt 15)),bG 55 (.dH 1 (tt 53) (tt 54)),bG 56 (.aW (tt 55)),bG 57 (.lX (tt 56))]
def Jr:bw:=pz 6 7 (sl 57) (sl 58) (sl 59) (sl 60) (sl 61) (sl 16) RZ
def R1:bw:=.seq Jq Jr
def zz:List ah:=sl 16::(ahq 15).map λi=>sl (53+i)
def R2:bw:=.region [bG 85 (.aW (tt 11)),bG 86 (.bf (tt 19)),bG 87 (.call (tt 85) [tt 86,.c (.int 3 (.ofNat 0))])]
def Js:bw:=.region [bG 76 (.aW (tt 5)),bG 77 (.bf (tt 17)),bG 78 (.dH 1 (tt 76) (tt 77)),bG 79 (.aW (tt 78)),bG 80 (.lX (tt 79))]
def Jt:bw:=pz 8 9 (sl 80) (sl 81) (sl 82) (sl 83) (sl 84) (sl 19) R2
def R3:bw:=.seq Js Jt
def zA:List ah:=sl 19::(ahq 12).map λi=>sl (76+i)
def jQ(H:ai)(i:ah):Option (List (Int×Int)):=
 match dC (H.get i)with
 |some es=>go es
 |none=>none
where go:List aV->Option (List (Int×Int))
 |[]=>some []
 |e::es=>match e.key,e.val,go es with
  |.int 3 k,.int 3 v,some l=>some ((k,v)::l)
  |_,_,_=>none
def eh(pl:List (Int×Int))(bq:Int):List Int->List Int
 |[]=>[]
 |v::l=>if pA pl bq v then v::eh pl bq l else eh pl bq l
where pA(pl:List (Int×Int))(bq v:Int):Bool:=
 match pl with
 |[]=>true
 |(k,g)::pl=>if gz v k then !j7 g bq else pA pl bq v
def kG(t0:List Int):List Int->Bool
 |[]=>false
 |v::l=>!fP v t0||kG t0 l
def kH(H:ai)(q:ah):AV->Option AV
 |.aD i o=>if ah.beq i q then none else aY H i o
 |_=>none
def rN(H:ai)(q:ah)(s:AV)(x:Int):Option AV:=
 match s with
 |.slice i _ _ _ _=>if ah.beq i q then none else kg H s x
 |_=>none
def xi(dp:Nat)(bq:ah->Option Int)(to:Nat)(co:List ah)(af:az AV)(H:ai):Option (az AV×ai):=
 match l9 H (af.get .ai8 (sl 11))with
 |some (.func f [] [c1,c2,c3,.aD a no])=>if ahr f dp then
  match kH H a (af.get .ai8 (sl 5)),af.get .ai8 (sl to),kH H a (af.get .ai8 (sl 11)),kH H a c1,kH H a c2,kH H a c3,bq a with
  |some g,.int _ t,some _,some (.map d),some h,some (.int _ b),some bq=>
   match rN H a g t,rN H a h b,H.get a with
   |some (.map m),some (.map N),.cells c n e true [] fz=>
    if ah.beq d N||ah.beq m d||!(aih fz no&&ahO no n)then none else
    match iD H m,iD H d,jQ H d,iC H N,c.br .ai8 no with
    |some ks,some _,some pl,some t0,.bool i=>
     some (jn af co,((H.set N (.cK (dt (eX (eh pl bq ks) t0)))).set a (.cells (ez c no [.bool (i||kG t0 (eh pl bq ks))]) n e true [] fz)).skip)
    |_,_,_,_,_=>none
   |_,_,_=>none
  |_,_,_,_,_,_,_=>none
  else none
 |_=>none
def EA(dp:Nat)(af:az AV)(H:ai):Option (az AV×ai):=
 xi dp (λa=>match af.get .ai8 (sl 7)with
 |.aD i o=>if ah.beq i a then none else match aY H i (o+1)with
  |some (.slice _ _ n _ _)=>some (.ofNat n)
  |some .bj=>some (.ofNat 0)
  |_=>none
 |_=>none) 15 zz af H
def EB(dp:Nat)(af:az AV)(H:ai):Option (az AV×ai):=xi dp (λ_=>some (.ofNat 0)) 17 zA af H
def lj(x:Int):List Int->List Int
 |[]=>[x]
 |y::l=>if j7 y x then y::lj x l else x::y::l
def eL:List Int->List Int
 |[]=>[]
 |x::l=>lj x (eL l)
def zB(args:List AV)(H:ai):Option (AV×ai):=
 match args with
 |[.cP]=>some (.bj,H)
 |[.map m]=>match iD H m with
  |some []=>some (.bj,H)
  |some ks=>if aih ks.length 1000 then some (.slice H.next 0 ks.length ks.length false,H.new (.cells (cr ((eL ks).map λn=>.int 3 n)) ks.length 3 true [] 0))else none
  |none=>none
 |_=>none
def zC(args:List AV)(H:ai):Option (AV×ai):=
 match args with
 |[.iface t (.map m)]=>match H.get m with
  |.map es c=>some (.iface t (.map H.next),H.new (.map es c))
  |_=>none
 |_=>none
def R4:List (Nat×bw):=[(1001,RV),(1002,RY),(1003,RR),(1004,R1),(1005,R3)]
instance afb:Ov:=RL R4 bt
section
variable[Ov]
theorem zD:∀(l:List ah)(af:az AV)(t:ah),(jn af l).get .ai8 t=if t∈l then .bQ else af.get .ai8 t
 |[],af,t=>by simp[jn]
 |p::l,af,t=>by
  rw[jn,zD l,az.aG];by_cases h:t∈l;·simp[h]
  by_cases e:t=p<;>simp[h,e]
theorem Ju:lI F λ_=>.none:=by refine⟨?_,?_,?_⟩<;>(intros;rename_i h;cases h)
theorem R5(u:lI F c){c1 c2:Code}(h1:eJ F O c1=some d)(h2:eJ F O c2=some x){b:Frame}{A:Act}(he:Xc c n (.seq d x) L B C)(v:gI S O L b.roundOf A)(y:bm F W S B M)(k:List Item)(cs:List Frame):gY F W S O M b k cs (lone (b.atR A (.code (.seq c1 c2)::k)) cs M) C:=by cases n with|zero=>trivial|succ n=>have e:wN F c n:=(Br u n).2.1;have⟨j,f,q,g,r,s,t,h,i,l,m,o,p,z⟩:=e h1 he v y (.code c2::k) cs;refine .iN (.one stepR_seq) (.iN z ?_);cases j with|none=>rw[show t=.code c2::k from p];exact .wP i o (e h2 h l m k cs)|exit id=>exact⟨.exit id,f,q,g,r,s,t,h,i,l,m,o,p.sN (λ_ _=>rfl) trivial,Steps.refl _ _⟩|ret=>exact⟨.ret,f,q,g,r,s,t,h,i,l,m,o,p.sN (λ_ _=>rfl) trivial,Steps.refl _ _⟩
theorem Jv(h:bm F W S B M){m:ah}(g:B.get m=.map r n):(r.map (·.born)).Nodup/\∀e∈r,e.born<n:=by
 have⟨b,x,i,e,hl,hb,d⟩:=h.aE (i:=m) (by grind);rw[g]at d;cases i<;>simp only[OR]at d;obtain⟨_,rfl,eB,f⟩:=d;have key:∀{r:List aV}{l:List MapEntry},ct S r l->r.map (·.born)=l.map (·.born):=by intro r;induction r with|nil=>intro l h;cases l<;>simp[ct]at h;rfl|cons p r j=>intro l h;cases l with|nil=>simp[ct]at h|cons c l=>simp only[ct]at h;simp[h.2.2.1,j h.2.2.2]
 refine⟨by rw[key f];exact eB.1,λp k=>?_⟩;have:p.born∈r.map (·.born):=ahG k;rw[key f,ahm]at this;have⟨c,o,e⟩:=this;rw[<-e];exact eB.2 c o
theorem Jw(l:bm F W S B M){m:ah}{es:List aV}(f:dC (B.get m)=some es):∃(d:List aV)(b:Nat),bm F W S (B.set m (.map d b)) M/\(d.map aV.kv).Perm (es.map aV.kv)/\(d.map (·.born)).Nodup/\(∀e∈d,e.born<b)/\∀{g:cq}{h:aP}{n:ai}{w':World},bm F g h n w'->n.get m=.map d b->bm F g h (n.set m (B.get m)) w':=by cases k:B.get m with|map i c=>rw[k]at f;simp only[dC,aa9]at f;subst f;have hb:=Jv l k;refine⟨i,c,l.congr rfl λj=>?_,ai3 _,hb.1,hb.2,λh2 hg=>h2.congr rfl λj=>?_⟩;all_goals simp_all[ai.aG]|cK i=>rw[k]at f;simp only[dC,aa9]at f;subst f;have⟨o,d,b,p1,p2,h1⟩:=Iv l k;have hb:=Jv h1 (m:=m) (by rw[ai.aG,aF rfl]);grind[D3]|_=>simp_all[dC]
theorem xj:∀{es:List aV}{ks:List Int},iB es=some ks->(∀e∈es,∃k∈ks,e.key=.int 3 k)/\∀k∈ks,∃e∈es,e.key=.int 3 k
 |[],ks,h=>by simp_all[iB,aa9]
 |f::es,ks,h=>by
  simp only[iB]at h;split at h;·rename_i k l b hl;injection h with h;subst h;have⟨c,d⟩:=xj hl;grind
  grind
theorem R6{es:List aV}(h:iB es=some E)(g:(r.map aV.kv).Perm (es.map aV.kv)):(∀e∈r,∃k∈E,e.key=.int 3 k)/\∀k∈E,∃e∈r,e.key=.int 3 k:=by
 have⟨i,j⟩:=xj h;constructor;·intro e he;have:e.kv∈es.map aV.kv:=g.mem_iff.1 (ahG he);rw[ahm]at this;have⟨d,b,c⟩:=this;have⟨k,h1,h2⟩:=i d b;have:e.key=d.key:=(congrArg ai6 c).symm;exact⟨k,h1,this.trans h2⟩
 intro k f;have⟨e,he,h2⟩:=j k f;have:e.kv∈r.map aV.kv:=g.mem_iff.2 (ahG he);rw[ahm]at this;have⟨d,b,c⟩:=this;have:d.key=e.key:=congrArg ai6 c;exact⟨d,b,this.trans h2⟩
theorem uz(h:iD B N=some E):∃es,dC (B.get N)=some es/\iB es=some E/\E.Nodup:=by grind[iD,ux]
def sk(k:Int):AV×AV:=(.int 3 k,.bool true)
def fx(o:bR)(ks:List Int):Prop:=ks.Nodup/\∃es,dC o=some es/\es.map aV.kv=ks.map sk
theorem Jx:∀{es:List aV}{ks:List Int},rJ es=some ks->es.map aV.kv=ks.map sk
 |[],ks,h=>by simp_all[rJ,aa9]
 |b::es,ks,h=>by
  simp only[rJ]at h;split at h;·rename_i k l h1 h2 hl;injection h with h;subst h;simp only[ahk,Jx hl,aV.kv,h1,h2,sk]
  grind
theorem nT(h:iC B N=some E):fx (B.get N) E:=by
 unfold iC at h;split at h
 .rename_i es jP;split at h
  .rename_i l hl;split at h;·rename_i b;injection h with h;subst h;exact⟨(ux _).1 b,es,jP,Jx hl⟩
   grind
  grind
 grind
theorem EC(l:List Int):(dt l).map aV.kv=l.map sk:=by simp[dt,aV.kv,sk]
theorem sX(h:E.Nodup):fx (.cK (dt E)) E:=⟨h,dt E,rfl,EC E⟩
theorem bm.uA(h:bm F W S B M)(hs:fx (B.get N) ks)(j:ks.Perm ks2):bm F W S (B.set N (.cK (dt ks2))) M:=by
 have⟨_,es,he,g⟩:=hs;have f:(dt ks).Perm (dt ks2):=j.map _;have d:es.map aV.kv=(dt ks).map aV.kv:=by rw[g,EC]
 cases b:B.get N with|map i c=>rw[b]at he;simp only[dC,aa9]at he;subst he;exact D3 h b f d|cK i=>rw[b]at he;simp only[dC,aa9]at he;subst he;refine h.Iu (by rw[b];simp) (by rw[b];rfl) (by rw[b];rfl) rfl ?_;intro x k e;rw[b]at e;cases k<;>simp only[OR]at e⊢;have⟨h1,h2,l,h3,m⟩:=e;have⟨n,p1,p2⟩:=cZ.Bg f (cZ.kv d m);exact⟨⟨h1,h2,n,p1.trans h3,p2⟩,λq=>by simp[eQ]⟩|_=>rw[b]at he;simp[dC]at he
theorem ED{k:Int}:∀{es:List aV}{ks:List Int},es.map aV.kv=ks.map sk->∀i0,(k∉ks->findKey .int (.int 3 k) es i0=some none)/\(k∈ks->∃i,findKey .int (.int 3 k) es i0=some (some (i0+i,.bool true))/\i<es.length/\kA (.bool true) (.int 3 k) es i=es)
 |[],[],_,i0=>by simp[findKey]
 |e::es,x::ks,h,i0=>by
  simp only[ahk,ahD,aV.kv,sk,afm]at h;have⟨⟨h1,h2⟩,h3⟩:=h;have⟨f,d⟩:=ED (k:=k) h3 (i0+1);have c:db 64 .int (.int 3 k) (.int 3 x)=some (gz k x):=by simp[db]
  by_cases b:k=x
  .subst b;refine⟨λh=>absurd (acj ..) h,λ_=>⟨0,?_,aC,?_⟩⟩;·simp[h1,c,h2,findKey,dW,beq_self_eq_true,aiV]
   simp only[kA,<-h1,<-h2]
  have g:gz k x=false:=by rw[dW];simpa using b
  refine⟨λh=>?_,λh=>?_⟩;·simp_all[findKey,ab8]
  have⟨i,j,l,m⟩:=d ((ac2.1 h).resolve_left b);refine⟨i+1,?_,by grind,?_⟩;all_goals grind[findKey,kA]
 |[],_::_,h,_=>by grind
 |_::_,[],h,_=>by grind
theorem EE{k:Int}:∀{es:List aV}{ks:List Int},ks.Nodup->es.map aV.kv=ks.map sk->(k∉ks->eN.go .int (.int 3 k) es=some none)/\(k∈ks->eN.go .int (.int 3 k) es=some (some (.bool true))/\(j8 .int (.int 3 k) (.bool true) es).map aV.kv=ks.map sk)
 |[],[],_,_=>by simp[eN.go]
 |e::es,x::ks,d,h=>by
  rw[ahT]at d;simp only[ahk,ahD,aV.kv,sk,afm]at h;have⟨⟨h1,h2⟩,h3⟩:=h;have⟨f,g⟩:=EE (k:=k) d.2 h3;have c:db 64 .int (.int 3 k) (.int 3 x)=some (gz k x):=by simp[db]
  by_cases b:k=x
  .subst b;have hg:=f d.1;refine⟨λh=>absurd (acj ..) h,λ_=>⟨?_,?_⟩⟩;·simp[h1,c,hg,h2,eN.go,dW,beq_self_eq_true]
   simp only[j8,kN,h1,c,dW,beq_self_eq_true,bg,(wJ (v:=.bool true) hg).1,ahk,aV.kv,sk];grind
  have i:gz k x=false:=by rw[dW];simpa using b
  refine⟨λh=>?_,λh=>?_⟩;·simp_all[eN.go,ab8]
  have⟨j,l⟩:=g ((ac2.1 h).resolve_left b);simp_all[eN.go,j8,kN,abH,bF,ahk,aV.kv,sk]
 |[],_::_,_,h=>by grind
 |_::_,[],_,h=>by grind
theorem xk(af:az AV)(v:AV):gv af (.c v)=v:=rfl
theorem EF{af:az AV}{x:Int}(r:gv af om=.map N)(s:gv af ok_=.int 3 x)(hs:fx (H.get N) ks):∃o,aH (.jK .int om ok_ (.c (.bool true))) af H=some (.ai8,o)/\o.next=H.next/\(∀j,j≠N->o.get j=H.get j)/\fx (o.get N) (mW x ks)/\∀es D,H.get N=.map es D->∃A C,o.get N=.map A C/\(x∈ks->o.get N=H.get N):=by
 have⟨p,es,he,k⟩:=hs;have d:fP x ks=true↔x∈ks:=qz x ks;cases l:H.get N with
 |map f D=>
  rw[l]at he;simp only[dC,aa9]at he;subst he;have⟨u,v⟩:=ED (k:=x) k 0;by_cases g:x∈ks
  .have⟨i,t,y,B⟩:=v g;rw[ahw]at t;refine⟨H.set N (.map (kA (.bool true) (.int 3 x) f i) D),?_,rfl,λj hj=>by rw[ai.aG,an hj],?_,λm c2 q=>⟨_,_,by rw[ai.aG,aF rfl],λ_=>by rw[ai.aG,aF rfl,B]⟩⟩;·have n:wd .int (.int 3 x) f i=true:=D4 rfl _ _ _ y;simp only[aH,iH,ahN,abH,bF,r,s,l,t,n,bg,xk]
   rw[ai.aG,aF rfl];unfold mW;rw[aF (d.2 g)];exact⟨p,_,rfl,by rw[B];exact k⟩
  refine⟨H.set N (.map (f++[⟨.int 3 x,.bool true,D⟩]) (D+1)),?_,rfl,λj hj=>by rw[ai.aG,an hj],?_,λm c2 q=>⟨_,_,by rw[ai.aG,aF rfl],λh=>absurd h g⟩⟩;·simp only[aH,iH,ahN,abH,bF,r,s,l,u g,xk]
  rw[ai.aG,aF rfl];unfold mW;rw[an (λh=>g (d.1 h))];refine⟨?_,_,rfl,by simp[k,aV.kv,sk]⟩;rw[ahZ];exact⟨p,aC,λE z b hb=>by simp only[abt]at hb;subst hb;exact λe=>g (e▸z)⟩
 |cK f=>
  rw[l]at he;simp only[dC,aa9]at he;subst he;have⟨u,v⟩:=EE (k:=x) p k;by_cases g:x∈ks
  .have⟨t,y⟩:=v g;refine⟨H.set N (.cK (j8 .int (.int 3 x) (.bool true) f)),?_,rfl,λj hj=>by rw[ai.aG,an hj],?_,λm c2 q=>by cases q⟩;·simp only[aH,iH,ahN,abH,bF,r,s,l,eN,rl,bg,t,xk]
   rw[ai.aG,aF rfl];unfold mW;rw[aF (d.2 g)];exact⟨p,_,rfl,y⟩
  refine⟨H.set N (.cK (f++[⟨.int 3 x,.bool true,0⟩])),?_,rfl,λj hj=>by rw[ai.aG,an hj],?_,λm c2 q=>by cases q⟩;·simp only[aH,iH,ahN,abH,bF,r,s,l,eN,rl,bg,u g,xk]
  rw[ai.aG,aF rfl];unfold mW;rw[an (λh=>g (d.1 h))];refine⟨?_,_,rfl,by simp[k,aV.kv,sk]⟩;rw[ahZ];exact⟨p,aC,λE z b hb=>by simp only[abt]at hb;subst hb;exact λe=>g (e▸z)⟩
 |_=>rw[l]at he;simp[dC]at he
theorem Jy{af:az AV}{x:Int}(d:gv af om=.map N)(e:gv af ok_=.int 3 x)(hs:fx (H.get N) ks):∃b,aH (.jK .int om ok_ (.c (.bool true))) af H=some (.ai8,b)/\b.next=H.next/\(∀j,j≠N->b.get j=H.get j)/\fx (b.get N) (mW x ks):=by grind[EF]
theorem Jz{x:Int}(j:gv A a=.map N)(k:gv A ok_=.int 3 x)(hs:fx (B.get N) E):aH (.lookup .int (.bool false) false a ok_) A B=some (.bool (fP x E),B):=by
 have⟨n,es,he,b⟩:=hs;have d:fP x E=true↔x∈E:=qz x E;have hb:∀q:Bool,(x∈E↔q=true)->fP x E=q:=λq p=>by cases q<;>cases h:fP x E<;>simp_all
 cases e:B.get N with
 |map g c=>
  rw[e]at he;simp only[dC,aa9]at he;subst he;have⟨l,m⟩:=ED (k:=x) b 0;by_cases f:x∈E;·have⟨i,o,_⟩:=m f;simp[j,k,e,o,d,f,aH,iH,ahN,abH,bF]
  simp[j,k,e,l,f,hb,aH,iH,ahN,abH,bF]
 |cK g=>rw[e]at he;simp only[dC,aa9]at he;subst he;have⟨l,m⟩:=EE (k:=x) n b;by_cases f:x∈E;all_goals simp_all[aH,iH,ahN,abH,bF,eN,rl,bg]
 |_=>simp_all[dC]
theorem uB(h:aY B N n=some Y):∃c d e b aK fz,B.get N=.cells c d e b aK fz/\n<d/\c.br .ai8 n=Y:=by grind[aY,Eq.mp,Nat.blt_eq]
theorem mX(h:B.get N=H'.get N)(o:Nat):aY B N o=aY H' N o:=by simp[h,aY]
theorem iq(b:gv A a=.aD N n)(h:aY B N n=some Y):aH (.aW a) A B=some (Y,B):=by have⟨c,f,e,d,aK,fz,h1,h2,h3⟩:=uB h;simp[b,h1,h2,h3,aH,gW,dE,fZ]
theorem sY(h:l9 B Y=some s2):∃i o,Y=.aD i o/\aY B i o=some s2:=by unfold l9 at h;grind
theorem zE(h:kg B Y v=some s2):∃i o n c e j,Y=.slice i o n c e/\v=.ofNat j/\j<n/\aY B i (o+j)=some s2:=by
 unfold kg at h;split at h
 .split at h;·rename_i b;exact⟨_,_,_,_,_,_,rfl,rfl,Eq.mp aib b,h⟩
  grind
 grind
theorem sZ{c:Nat}{e:Bool}{j k:Nat}(b:gv A a=.slice N O n c e)(d:gv A ok_=.int k (.ofNat j))(hj:j<n):aH (.dH 1 a ok_) A B=some (.aD N (O+j),B):=by have:ahO j n=true:=ai5 aib hj;simp[b,d,this,aH]
end
section
mutual
theorem VR.eS(h:b9 S b):∀(v:AV)(c0 c:Value),VR S v c0->VR b v c->VR S v c
 |.tuple l,c0,c,d,k=>by
  cases c0<;>simp only[VR]at d
  cases c<;>simp only[VR]at k⊢
  exact be.eS h l _ _ d k
 |.agg l,c0,c,d,k=>by
  cases c0<;>simp only[VR]at d
  cases c<;>simp only[VR]at k⊢
  exact be.eS h l _ _ d k
 |.bool _,c0,c,_,k=>by cases c<;>simp only[VR]at k⊢;exact k
 |.int _ _,c0,c,_,k=>by cases c<;>simp only[VR]at k⊢;exact k
 |.str _,c0,c,_,k=>by cases c<;>simp only[VR]at k⊢;exact k
 |.aD i o,c0,c,d,k=>by
  cases c0 with
  |pointer a0=>
   cases a0 with
   |none=>simp[VR]at d
   |some a0=>
    have⟨p,q,j,_⟩:=d
    cases c with
    |pointer a=>
     cases a with
     |none=>simp[VR]at k
     |some a=>
      have⟨G,x,e,w⟩:=k
      have:=(h _ _ j).1.symm.trans e
      injection this with this;injection this with r s
      subst r;subst s
      exact⟨_,_,j,w⟩
    |_=>simp[VR]at k
  |_=>simp[VR]at d
 |.j5,c0,c,_,k=>by
  cases c with
  |pointer a=>cases a<;>simp[VR]at k⊢
  |_=>simp[VR]at k
 |.slice i o len cap ex,c0,c,d,k=>by
  cases c0 with
  |slice a0 E F=>
   cases a0 with
   |none=>simp[VR]at d
   |some a0=>
    have⟨_,_,_,_,p,q,j,_⟩:=d
    cases c with
    |slice a n m=>
     cases a with
     |none=>simp[VR]at k
     |some a=>
      have⟨h1,h2,h3,z,G,x,e,A,u⟩:=k
      have:=(h _ _ j).1.symm.trans e
      injection this with this;injection this with r s
      subst r;subst s
      have B:=(h _ _ j).2
      rw[B]at u
      exact⟨h1,h2,h3,z,_,_,j,A,u⟩
    |_=>simp[VR]at k
  |_=>simp[VR]at d
 |.bj,c0,c,_,k=>by
  cases c with
  |slice a n m=>
   unfold VR at k⊢
   split at k<;>first|trivial|(exact absurd k aC)|exact k
  |_=>simp[VR]at k
 |.map i,c0,c,d,k=>by
  cases c0 with
  |map p=>
   cases p with
   |none=>simp[VR]at d
   |some p=>
    cases c with
    |map G=>
     cases G with
     |none=>simp[VR]at k
     |some G=>
      simp only[VR]at k⊢
      have:=(h _ _ d).1.symm.trans k
      rw[d];exact this
    |_=>simp[VR]at k
  |_=>simp[VR]at d
 |.cP,c0,c,_,k=>by
  cases c with
  |map G=>cases G<;>simp[VR]at k⊢
  |_=>simp[VR]at k
 |.func f a G,c0,c,d,k=>by
  cases c0 with
  |func t0 q C=>
   cases t0 with
   |func D=>
    simp only[VR]at d
    cases c with
    |func t x y=>
     cases t with
     |func g=>
      simp only[VR]at k⊢
      exact⟨k.1,be.eS h a _ _ d.2.1 k.2.1,be.eS h G _ _ d.2.2 k.2.2⟩
     |_=>simp[VR]at k
    |_=>simp[VR]at k
   |_=>simp[VR]at d
  |_=>simp[VR]at d
 |.yield i,c0,c,d,k=>by
  cases c0 with
  |func t0 q C=>
   cases t0 with
   |yield D=>
    simp only[VR]at d
    cases c with
    |func t x y=>
     cases t with
     |yield g=>
      simp only[VR]at k⊢
      have:=(h _ _ d.1).1.symm.trans k.1
      exact⟨by rw[d.1];exact this,k.2⟩
     |_=>simp[VR]at k
    |_=>simp[VR]at k
   |_=>simp[VR]at d
  |_=>simp[VR]at d
 |.nilFunc,c0,c,_,k=>by cases c<;>simp only[VR]at k⊢
 |.iface t v,c0,c,d,k=>by
  cases c0<;>simp only[VR]at d
  cases c<;>simp only[VR]at k⊢
  exact⟨k.1,VR.eS h v _ _ d.2 k.2⟩
 |.nilIface,c0,c,_,k=>by cases c<;>simp only[VR]at k⊢
 |.bQ,c0,c,_,_=>by simp only[VR]
theorem be.eS(h:b9 S b):∀(l:List AV)(a m:List Value),be S l a->be b l m->be S l m
 |[],a,m,_,k=>by cases m<;>simp only[be]at k⊢
 |v::l,a,m,d,k=>by
  cases a with
  |nil=>simp[be]at d
  |cons c0 a=>
   cases m with
   |nil=>simp[be]at k
   |cons c m=>
    simp only[be]at d k⊢
    exact⟨VR.eS h v _ _ d.1 k.1,be.eS h l _ _ d.2 k.2⟩
end
theorem kS.eS(h:b9 S b):∀{l:List ah}{a m:List Deferred},kS S l a->kS b l m->kS S l m|[],a,m,_,k=>by grind[kS]|i::l,a,m,c,k=>by cases a with|nil=>trivial|cons j a=>cases m with|nil=>trivial|cons d m=>have⟨⟨n,e,_⟩,c⟩:=c;have⟨⟨r,f,g⟩,k⟩:=k;have:=(h _ _ e).1.symm.trans f;exact⟨⟨r,by grind,g⟩,kS.eS h c k⟩
section
variable[Ov]
theorem gI.off{c:Fr}{ro:Option Nat}{a d:Act}(h0:gI S n L ro a)(e:b9 S b)(h:gI b n c ro d)(hs:∀t,t∉J->c.af.get .ai8 t=L.af.get .ai8 t)(g:c.bA=L.bA):gI S n {L with af:=Go.al.jn L.af J} ro d:=by
 refine⟨⟨h.E.1,λt f=>?_⟩,?_,h0.R⟩
 .rw[zD];split;·trivial
  rename_i i;have:=h.E.2 t f;rw[hs _ i]at this;exact VR.eS e _ _ _ (h0.E.2 t f) this
 have:=h.D;rw[g]at this;exact kS.eS e h0.D this
theorem EG:∀{l:List aV},(l.map (·.born)).Nodup->∀{x y:aV},x∈l->y∈l->x.born=y.born->x=y
 |[],_,_,_,a,_,_=>by grind
 |c::l,b,x,y,a,f,h=>by
  rw[ahk,ahT]at b;rcases ac2.1 a with d|d<;>rcases ac2.1 f with e|e;·grind
  .grind
  .grind
  exact EG b.2 d e h
theorem EH(ht:lI F c){b:Frame}{a:Act}{c1 c2:Code}{ex kv:ah}(h1:eJ F O c1=some d)(h2:eJ F O c2=some (pz V u N w B1 pm ex kv x))(ag:V≠u)(d1:N≠w)(d2:N≠B1)(d3:w≠B1)(d4:N≠pm)(d5:pm≠ex)(d6:N≠ex)(d7:N≠kv){co:List ah}(s1:w∈co)(s2:B1∈co)(s3:pm∈co)(s4:ex∈co)(s5:kv∈co)(hF:gI S O L b.roundOf a)(hI:bm F W S B M){m:ah}{es:List aV}(hm:dC (B.get m)=some es)(hk:iB es=some ks)(nh Z:Nat)(X:∀g f,Xc c nh d L (B.set m (.map g f)) λj h i=>j=.none/\h.bA=L.bA/\h.bx=L.bx/\(∀t,t∉co->h.af.get .ai8 t=L.af.get .ai8 t)/\h.af.get .ai8 N=.aD B.next 0/\i=(B.set m (.map g f)).new (.mapIter (some m) f [] f))(J:List aV->Nat->List Int->ai->Prop)(J0:∀g f,(g.map aV.kv).Perm (es.map aV.kv)->J g f [] ((B.set m (.map g f)).new (.mapIter (some m) f [] f)))(av:∀g f l i o,J g f l i->J g f l (i.set B.next o))(Jm:∀g f l i,J g f l i->i.get m=.map g f)(C:∀g f l af i k,k∈ks->J g f l i->(∀t,t∉co->af.get .ai8 t=L.af.get .ai8 t)->af.get .ai8 kv=.int 3 k->Xc c Z x ⟨af,L.bA,L.bx⟩ i λj h v=>j=.none/\h.bA=L.bA/\h.bx=L.bx/\(∀t,t∉co->h.af.get .ai8 t=L.af.get .ai8 t)/\h.af.get .ai8 N=af.get .ai8 N/\v.get B.next=i.get B.next/\J g f (l++[k]) v)(aq:∀g f l i p w',(∀k,k∈l↔k∈ks)->J g f l i->b9 S p->bm F W p i w'->(∀{Q:cq}{p:aP}{v:ai}{w':World},bm F Q p v w'->v.get m=.map g f->bm F Q p (v.set m (B.get m)) w')->∃r,b9 S r/\bm F W r H w')(k:List Item)(cs:List Frame):gY F W S O M b k cs (lone (b.atR a (.code (.seq c1 c2)::k)) cs M) λj h i=>j=.none/\h={L with af:=jn L.af co}/\i=H:=by
 have⟨g,f,aw,hp,hb,ax,eS⟩:=Jw hI hm;have⟨ay,a2⟩:=R6 hk hp;have run:Xc c (nh+(Z+15+g.length)+1) (.seq d (pz V u N w B1 pm ex kv x)) L (B.set m (.map g f)) λj h i=>j=.none/\h.bA=L.bA/\(∀t,t∉co->h.af.get .ai8 t=L.af.get .ai8 t)/\∃l,(∀k,k∈l↔k∈ks)/\J g f l i:=by
  refine Xc.hZ (n:=nh) (m:=Z+15+g.length) aa aa ((X g f).mono (aeE _) ?_);rintro j h i⟨rfl,g1,g2,g3,g4,rfl⟩;have Y:h=⟨h.af,L.bA,L.bx⟩:=by cases h;simp only at g1 g2;subst g1;subst g2;rfl
  rw[Y];refine Jl ag d1 d2 d3 d5 hb ax (id:=B.next) (m:=m) (I:=λseen af i=>(∀t,t∉co->af.get .ai8 t=L.af.get .ai8 t)/\af.get .ai8 N=.aD B.next 0/\i.get B.next=.mapIter (some m) f seen f/\∃l,(∀k,k∈l->k∈ks)/\(∀e∈g,e.born∈seen->∃k∈l,e.key=.int 3 k)/\J g f l i) ?_ Z ?_ ?_ g.length [] h.af _ ?_ ?_;·rintro seen af i⟨q1,y,K,l,D,E,z⟩;exact⟨y,K,Jm _ _ _ _ z⟩
  .rintro seen af i e⟨q1,y,K,l,D,E,z⟩he a8;have⟨kk,R,s⟩:=ay e he;refine(C g f l _ _ kk R (av _ _ _ _ _ z) ?_ ?_).mono (aeE _) ?_;·intro t n;have n1:t≠w:=λe=>n (e▸s1);have n2:t≠B1:=λe=>n (e▸s2);have n3:t≠pm:=λe=>n (e▸s3);have n4:t≠ex:=λe=>n (e▸s4);have n5:t≠kv:=λe=>n (e▸s5);simp only[az.aG,an n1,an n2,an n3,an n4,an n5];exact q1 t n
   .rw[az.aG,aF rfl];exact s
   rintro j ba v⟨r1,r2,r3,r4,r5,r6,r7⟩;refine⟨r1,r2,r3,r4,?_,?_,l++[kk],?_,?_,r7⟩;·rw[r5];simp only[az.aG,an d1,an d2,an d4,an d6,an d7];exact y
   .rw[r6,ai.aG,aF rfl]
   .intro G A;rcases ac6.1 A with q|q;·exact D G q
    rw[abt]at q;rw[q];exact R
   intro e' T a6;rcases ac6.1 a6 with q|q;·obtain⟨G,a1,I⟩:=E e' T q;exact⟨G,ahj _ a1,I⟩
   rw[abt]at q;have:e'=e:=by exact EG hb T he q
   subst this;exact⟨kk,ahu _ (abt.2 rfl),s⟩
  .rintro seen af i⟨q1,y,K,l,D,E,z⟩eC;refine⟨rfl,rfl,?_,l,λG=>⟨D G,λA=>?_⟩,z⟩;·intro t n;have n1:t≠w:=λe=>n (e▸s1);have n2:t≠B1:=λe=>n (e▸s2);simp only[az.aG,an n1,an n2];exact q1 t n
   have⟨e,he,s⟩:=a2 G A;have⟨k2,a1,I⟩:=E e he (eC e he);rw[s]at I;injection I with _ I;rw[I];exact a1
  .exact⟨g3,g4,by rw[ai.cL,ai.eK,aF rfl],[],aC,aC,J0 g f hp⟩
  exact List.length_filter_le ..
 obtain⟨j,h,i,p,a',w',t,⟨rfl,e1,e2,l,e3,e4⟩,y,K,D,E,z,q7⟩:=R5 ht h1 h2 run hF aw k cs;have⟨r,x2,I2⟩:=aq g f l i p w' e3 e4 y D eS;exact⟨.none,_,_,r,a',w',t,⟨rfl,rfl,rfl⟩,x2,(gI.off hF y K e2 e1).mono x2,I2,E,z,q7⟩
end
end
section
section
variable[Ov]
theorem JA(ht:lI F c){b:Frame}{a:Act}{c1 c2:Code}{X ex kv:ah}(h1:eJ F n c1=some d)(h2:eJ F n c2=some (pz O V B1 pm id X ex kv x))(ag:O≠V)(d1:B1≠pm)(d2:B1≠id)(d3:pm≠id)(d4:B1≠X)(d5:X≠ex)(d6:B1≠ex)(d7:B1≠kv){co:List ah}(s1:pm∈co)(s2:id∈co)(s3:X∈co)(s4:ex∈co)(s5:kv∈co)(hF:gI S n L b.roundOf a)(Y:bm F W S B M)(hk:iD B w=some ks)(hN:iC B N=some l)(z:w≠N)(nh fb:Nat)(T:∀p f,Xc c nh d L (B.set w (.map p f)) λj g m=>j=.none/\g.bA=L.bA/\g.bx=L.bx/\(∀t,t∉co->g.af.get .ai8 t=L.af.get .ai8 t)/\g.af.get .ai8 B1=.aD B.next 0/\m=(B.set w (.map p f)).new (.mapIter (some w) f [] f))(one:Int->Int->Prop)(C:∀af m k i,k∈ks->(∀j,j≠N->j≠w->j≠B.next->m.get j=B.get j)->fx (m.get N) i->(∀t,t∉co->af.get .ai8 t=L.af.get .ai8 t)->af.get .ai8 kv=.int 3 k->Xc c fb x ⟨af,L.bA,L.bx⟩ m λj g H2=>j=.none/\g.bA=L.bA/\g.bx=L.bx/\(∀t,t∉co->g.af.get .ai8 t=L.af.get .ai8 t)/\g.af.get .ai8 B1=af.get .ai8 B1/\H2.next=m.next/\(∀j,j≠N->H2.get j=m.get j)/\∃r,fx (H2.get N) r/\∀a',a'∈r↔a'∈i\/one k a')(hx:E.Nodup)(av:∀a',a'∈E↔a'∈l\/∃k∈ks,one k a')(k:List Item)(cs:List Frame):gY F W S n M b k cs (lone (b.atR a (.code (.seq c1 c2)::k)) cs M) λj g m=>j=.none/\g={L with af:=jn L.af co}/\m=(B.set N (.cK (dt E))).skip:=by
 have⟨es,Z,aw,a8⟩:=uz hk;have Q:=nT hN;have A:N≠B.next:=λe=>by have:=(Y.du B.next (aeE _)).1;have⟨_,q,s,_⟩:=Q;rw[e,this]at s;simp[dC]at s
 have R:w≠B.next:=λe=>by have:=(Y.du B.next (aeE _)).1;rw[<-e]at this;rw[this]at Z;simp[dC]at Z
 refine EH ht h1 h2 ag d1 d2 d3 d4 d5 d6 d7 s1 s2 s3 s4 s5 hF Y Z aw nh fb T (J:=λp f ba m=>m.next=B.next.succ/\(∀j,j≠N->j≠w->j≠B.next->m.get j=B.get j)/\m.get w=.map p f/\∃i,fx (m.get N) i/\∀a',a'∈i↔a'∈l\/∃k∈ba,one k a') ?_ ?_ ?_ ?_ ?_ k cs
 .intro p f _;refine⟨rfl,λj H I D=>?_,?_,l,?_,aC⟩;·rw[ai.cL,ai.eK,an D,ai.aG,an I]
  .rw[ai.cL,ai.eK,an R,ai.aG,aF rfl]
  rw[ai.cL,ai.eK,an A,ai.aG,an (aiZ z)];exact Q
 .rintro p f ba m o⟨s,v,y,i,G,J⟩;refine⟨s,λj H I D=>?_,?_,i,?_,J⟩;·rw[ai.aG,an D];exact v j H I D
  .rw[ai.aG,an R];exact y
  rw[ai.aG,an A];exact G
 .rintro p f ba m⟨s,v,y,_⟩;exact y
 .rintro p f ba af m kk ax⟨s,v,y,i,G,J⟩he ay;refine(C af m kk i ax v G he ay).mono (aeE _) ?_;rintro j g H2⟨r1,r2,r3,r4,r5,r6,r7,r,r8,r9⟩;refine⟨r1,r2,r3,r4,r5,r7 _ (aiZ A),r6.trans s,λj H I D=>(r7 j H).trans (v j H I D),(r7 w z).trans y,r,r8,λa'=>?_⟩;rw[r9,J];simp only[ac6,abt];constructor
  .rintro((h|⟨u,h1,h2⟩)|h);·exact .inl h
   .exact .inr ⟨u,.inl h1,h2⟩
   exact .inr ⟨kk,.inr rfl,h⟩
  rintro(h|⟨u,h1|h1,h2⟩);·exact .inl (.inl h)
  .exact .inl (.inr ⟨u,h1,h2⟩)
  exact .inr (h1▸h2)
 rintro p f ba m a1 w' hl⟨s,v,y,i,G,J⟩a2 a6 eS;refine⟨a1,a2,?_⟩;have i1:=eS a6 y;have hp:i.Perm E:=(List.perm_ext_iff_of_nodup G.1 hx).2 λa'=>by
  rw[J,av];constructor
  .rintro(h|⟨u,h1,h2⟩);·exact .inl h
   exact .inr ⟨u,(hl u).1 h1,h2⟩
  rintro(h|⟨u,h1,h2⟩);·exact .inl h
  exact .inr ⟨u,(hl u).2 h1,h2⟩
 have i2:=i1.uA (N:=N) (ks:=i) (ks2:=E) (by rw[ai.aG,an (aiZ z)];exact G) hp;refine i2.sub (H2:=(B.set N (.cK (dt E))).skip) (by exact s.symm) λj=>?_;show(B.set N (.cK (dt E))).get j=_\/(B.set N (.cK (dt E))).get j=_;simp only[ai.aG];by_cases K:j=N;·left;simp[K]
 by_cases e2:j=w;·left;simp[K,e2]
 by_cases e3:j=B.next;·right;simp only[an K];rw[e3];exact(Y.du _ (aeE _)).1
 left;simp only[an K,an e2];exact(v j K e2 e3).symm
theorem jR(h:aY B N n=some Y)(b:dC (B.get w)=some r):N≠w:=by have⟨c,d,e,a,aK,fz,h1,_⟩:=uB h;rintro rfl;simp_all[dC]
theorem uC(a:bm F W S B M)(h:aY B N n=some Y):N≠B.next:=by have⟨c,d,e,b,aK,fz,h1,_⟩:=uB h;rintro rfl;rw[(a.du _ (aeE _)).1]at h1;cases h1
theorem zF(h:iC B N=some E):∃es,dC (B.get N)=some es:=by obtain⟨_,es,h,_⟩:=nT h;grind
theorem BA(h:iD B N=some E):∃es,dC (B.get N)=some es:=by grind[uz]
theorem xl{x:bR}(h:N≠w):aY (B.set w x) N n=aY B N n:=mX (by rw[ai.aG,an h]) n
theorem EI:∀{ks b:List Int},rL B Y ks=some b->∀x,x∈b↔∃k∈ks,kg B Y k=some (.int 3 x)
 |[],b,h,x=>by simp only[rL,aa9]at h;subst h;simp
 |y::l,b,h,x=>by
  simp only[rL]at h;split at h
  .rename_i r d h1 h2;injection h with h;subst h;rw[ac2,EI h2 x];constructor
   .rintro(rfl|⟨k,c,a⟩);·exact⟨y,acj ..,h1⟩
    exact⟨k,ab8 _ c,a⟩
   rintro⟨k,c,a⟩;rcases ac2.1 c with e|e;·subst e;rw[h1]at a;injection a with a;injection a with _ a;exact .inl a.symm
   exact .inr ⟨k,e,a⟩
  cases h
theorem JB:∀{ks a:List Int},rL B Y ks=some a->∀k∈ks,∃x,kg B Y k=some (.int 3 x)
 |[],_,_,k,b=>by grind
 |y::l,a,h,k,b=>by
  simp only[rL]at h;split at h
  .rename_i r c h1 h2;rcases ac2.1 b with e|e;·grind
   exact JB h2 k e
  grind
end
theorem bE:ah.cV n=ah.cV O↔n=O:=⟨ah.bE,λh=>h▸rfl⟩
theorem afc:uu F 1003 zx:=by
 intro Wr ρ H H' w nt fr c1 c2 x y V b a G l I hg W A k cs;injection I with X Y;subst X;subst Y;unfold zx at hg;split at hg;case h_2=>cases hg
 rename_i Z k5 v s N g1 g2 g3 g4;split at hg;case h_2=>cases hg
 rename_i m g5;split at hg;·cases hg
 rename_i n;have n:m≠N:=λe=>n (by rw[e];exact ah.ft.2 rfl);split at hg;case h_2=>cases hg
 rename_i ks t0 R B;split at hg;case h_2=>cases hg
 rename_i rs S;injection hg with hg;injection hg with J K;subst J;subst K;have⟨i3,o3,e3,c3⟩:=sY g1;have⟨C,o4,e4,c4⟩:=sY g3;have⟨is,os,ns,ag,av,js,e5,e6,e7,c5⟩:=zE g5;have⟨ms,g⟩:=BA R;have⟨Ns,p⟩:=zF B;have aw:fr=⟨fr.af,fr.bA,fr.bx⟩:=rfl;refine(JA Ju G l (co:=xf) bt bt bt bt bt bt bt bt bt bt bt bt bt W A R B n 20 20 ?_ (λk x=>kg H s k=some (.int 3 x)) ?_ (nR rs (nT B).1) ?_ k cs).mono ?_
 .intro d c;refine Xo.op (n:=18) (v:=Z) (H':=H.set m (.map d c)) (iq e3 (by rw[xl (jR c3 g)];exact c3)) ?_;refine Xo.op (n:=17) (v:=.int k5 v) (H':=H.set m (.map d c)) (by simp[aH,gv,aQ,az.aG,bE,g2]) ?_;refine Xo.op (n:=16) (v:=.aD is (os+js)) (H':=H.set m (.map d c)) (sZ (by simp[gv,aQ,az.aG,bE];exact e5) (by simp[gv,aQ,az.aG,bE];exact⟨rfl,e6⟩) e7) ?_;refine Xo.op (n:=15) (v:=.map m) (H':=H.set m (.map d c)) (iq (by simp[gv,aQ,az.aG,bE];exact⟨rfl,rfl⟩) (by rw[xl (jR c5 g)];exact c5)) ?_;refine Xo.op (n:=14) (v:=.aD H.next 0) (H':=(H.set m (.map d c)).new (.mapIter (some m) c [] c)) (by simp[aH,gv,aQ,az.aG,bE,ai.aG];rfl) (Xo.nil (n:=13) ?_);refine⟨rfl,rfl,rfl,?_,?_,rfl⟩;·intro t o;simp only[xf,ac2,ahv,or_false,not_or]at o;simp[aQ,az.aG,o]
  simp[aQ,az.aG,bE]
 .intro af f D L M i q he O;have⟨r,T⟩:=JB S D M;have⟨u,o2,n2,ax,ay,E,b1,b2,b3,z⟩:=zE T;have Q:aY f C o4=some s:=by rw[mX (i C (jR c4 p) (jR c4 g) (uC A c4))];exact c4
  have l:aY f u (o2+E)=some (.int 3 r):=by rw[mX (i u (jR z p) (jR z g) (uC A z))];exact z
  have h6:af.get .ai8 (sl 6)=.map N:=by rw[he _ bt];exact g4
  have h4:af.get .ai8 (sl 4)=.aD C o4:=by rw[he _ bt];exact e4
  obtain⟨H2,u1,u2,u3,u4⟩:=Jy (H:=f) (N:=N) (x:=r) (ks:=L) (af:=((((af.set .ai8 (sl 42) (.map N)).set .ai8 (sl 43) s).set .ai8 (sl 44) (.int 3 D)).set .ai8 (sl 45) (.aD u (o2+E))).set .ai8 (sl 46) (.int 3 r)) (om:=tt 42) (ok_:=tt 46) (by simp[gv,az.aG,bE]) (by simp[gv,az.aG,bE]) q;refine Xo.op (n:=18) (v:=.map N) (H':=f) (by simp[aH,gv,h6]) ?_;refine Xo.op (n:=17) (v:=s) (H':=f) (iq (by simp[gv,aQ,az.aG,bE];exact h4) Q) ?_;refine Xo.op (n:=16) (v:=.int 3 D) (H':=f) (by simp[aH,gv,aQ,az.aG,bE];exact O) ?_;refine Xo.op (n:=15) (v:=.aD u (o2+E)) (H':=f) (sZ (by simp[gv,aQ,az.aG,bE];exact b1) (by simp[gv,aQ,az.aG,bE];exact⟨rfl,b2⟩) b3) ?_;refine Xo.op (n:=14) (v:=.int 3 r) (H':=f) (iq (by simp[gv,aQ,az.aG,bE]) l) (Xo.op (n:=13) (v:=.ai8) (H':=H2) u1 (Xo.nil (n:=12) ⟨rfl,rfl,rfl,?_,?_,u2,u3,_,u4,?_⟩));·intro t o;rw[<-he t o];simp only[xf,ac2,ahv,or_false,not_or]at o;simp[aQ,az.aG,o]
  .simp[aQ,az.aG,bE]
  intro x;rw[zw,T];constructor
  .rintro(h|h);·exact .inr (h▸rfl)
   exact .inl h
  rintro(h|h);·exact .inr h
  injection h with h;injection h with _ h;exact .inl h.symm
 .intro x;rw[lL,EI S,or_comm]
 rintro j a1 f⟨rfl,rfl,rfl⟩;exact⟨rfl,rfl,rfl⟩
end
theorem rO(v y:Int):∀l:List Int,y∈fV v l↔y∈l/\y≠v
 |[]=>by simp[fV]
 |x::l=>by
  simp only[fV];split
  .rename_i h;rw[dW]at h;have h:x=v:=by simpa using h
   rw[rO v y l,ac2];constructor;·rintro⟨h1,h2⟩;exact⟨.inr h1,h2⟩
   rintro⟨h1|h1,h2⟩;·exact absurd (h1.trans h) h2
   exact⟨h1,h2⟩
  rename_i h;rw[dW]at h;have h:x≠v:=by simpa using h
  rw[ac2,rO v y l,ac2];constructor
  .rintro(h1|⟨h1,h2⟩);·exact⟨.inl h1,h1▸h⟩
   exact⟨.inr h1,h2⟩
  rintro⟨h1|h1,h2⟩;·exact .inl h1
  exact .inr ⟨h1,h2⟩
theorem BB:∀{l:List Int},l.Nodup->(fV v l).Nodup
 |[],_=>by trivial
 |x::l,h=>by
  rw[ahT]at h;simp only[fV];split;·exact BB h.2
  rw[ahT,rO];exact⟨λq=>h.1 q.1,BB h.2⟩
theorem R7:uu F 1001 uy:=by
 intro Wr ρ H H' w nt fr c1 c2 x y Q b a E G I hg R z k cs;injection I with S T;subst S;subst T;unfold uy at hg;split at hg;case h_2=>cases hg
 rename_i m v A V W X;split at hg;case h_2=>cases hg
 rename_i N Y;split at hg;·cases hg
 rename_i o;have o:m≠N:=λe=>o (by rw[e];exact ah.ft.2 rfl);split at hg;case h_2=>cases hg
 rename_i ks t0 O B;injection hg with hg;injection hg with J K;subst J;subst K;have⟨C,o3,Z,c3⟩:=sY X;have⟨is,os,ns,ag,av,D,e5,e6,e7,c5⟩:=zE Y;have⟨ms,p⟩:=BA O;have⟨Ns,q⟩:=zF B;have aw:fr=⟨fr.af,fr.bA,fr.bx⟩:=rfl;refine(JA Ju E G (co:=rM) bt bt bt bt bt bt bt bt bt bt bt bt bt R z O B o 20 30 ?_ (λk x=>x=k/\k≠v) ?_ (nR (fV v ks) (nT B).1) ?_ k cs).mono ?_
 .intro r c;refine Xo.op (n:=18) (v:=.map m) (H':=H.set m (.map r c)) (by simp[aH,gv,V]) ?_;refine Xo.op (n:=17) (v:=.aD H.next 0) (H':=(H.set m (.map r c)).new (.mapIter (some m) c [] c)) (by simp[aH,gv,aQ,az.aG,bE,ai.aG];rfl) (Xo.nil (n:=16) ?_);refine⟨rfl,rfl,rfl,?_,?_,rfl⟩;·intro t g;simp only[rM,ac2,ahv,or_false,not_or]at g;simp[aQ,az.aG,g]
  simp[aQ,az.aG,bE]
 .intro af f i s ax l n he u;have L:aY f C o3=some A:=by rw[mX (l C (jR c3 q) (jR c3 p) (uC z c3))];exact c3
  have M:aY f is (os+D)=some (.map N):=by rw[mX (l is (jR c5 q) (jR c5 p) (uC z c5))];exact c5
  have P:af.get .ai8 (sl 5)=.int 3 v:=by rw[he _ bt];exact W
  have h3:af.get .ai8 (sl 3)=.aD C o3:=by rw[he _ bt];exact Z
  refine Xc.hZ (n:=28) (m:=28) (k:=29) aa aa (Xc.region (n:=27) ?_);refine Xo.op (n:=26) (v:=.int 3 i) (H':=f) (by simp[aH,gv];exact u) ?_;refine Xo.op (n:=25) (v:=.int 3 v) (H':=f) (by simp[aH,gv,aQ,az.aG,bE];exact P) ?_;by_cases d:i=v
  .have hb:gz i v=true:=by rw[dW];simpa using d
   refine Xc.lJ (n:=27) (by simp[gv,aQ,az.aG,bE,hb]) (Xc.skip (n:=26) ⟨rfl,rfl,rfl,?_,?_,rfl,λ_ _=>rfl,s,n,λx=>⟨.inl,λh=>h.elim id λh=>absurd d h.2⟩⟩);·intro t g;rw[<-he t g];simp only[rM,ac2,ahv,or_false,not_or]at g;simp[aQ,az.aG,g]
   simp[aQ,az.aG,bE]
  have hb:gz i v=false:=by rw[dW];simpa using d
  obtain⟨H2,u1,u2,u3,u4⟩:=Jy (H:=f) (N:=N) (x:=i) (ks:=s) (af:=((((((((af.set .ai8 (sl 37) (.int 3 i)).set .ai8 (sl 38) (.int 3 v)).set .ai8 (sl 39) (.bool (!gz i v))).set .ai8 (sl 40) A).set .ai8 (sl 41) (.int 3 v)).set .ai8 (sl 42) (.aD is (os+D))).set .ai8 (sl 43) (.map N)).set .ai8 (sl 44) (.int 3 i))) (om:=tt 43) (ok_:=tt 44) (by simp[gv,az.aG,bE]) (by simp[gv,az.aG,bE]) n;refine Xc.mU (n:=27) (by simp[gv,aQ,az.aG,bE,hb]) (Xc.region (n:=26) ?_);refine Xo.op (n:=25) (v:=A) (H':=f) (iq (by simp[gv,aQ,az.aG,bE];exact h3) L) ?_;refine Xo.op (n:=24) (v:=.int 3 v) (H':=f) (by simp[aH,gv,aQ,az.aG,bE];exact P) ?_;refine Xo.op (n:=23) (v:=.aD is (os+D)) (H':=f) (sZ (by simp[gv,aQ,az.aG,bE];exact e5) (by simp[gv,aQ,az.aG,bE];exact⟨rfl,e6⟩) e7) ?_;refine Xo.op (n:=22) (v:=.map N) (H':=f) (iq (by simp[gv,aQ,az.aG,bE]) M) ?_;refine Xo.op (n:=21) (v:=.int 3 i) (H':=f) (by simp[aH,gv,aQ,az.aG,bE];exact u) ?_;refine Xo.op (n:=20) (v:=.ai8) (H':=H2) u1 (Xo.nil (n:=19) ⟨rfl,rfl,rfl,?_,?_,u2,u3,_,u4,λx=>?_⟩);·intro t g;rw[<-he t g];simp only[rM,ac2,ahv,or_false,not_or]at g;simp[aQ,az.aG,g]
  .simp[aQ,az.aG,bE]
  rw[zw];constructor
  .rintro(h|h);·exact .inr ⟨h,d⟩
   exact .inl h
  rintro(h|h);·exact .inr h
  exact .inl h.1
 .intro x;rw[lL,rO];constructor
  .rintro(⟨h,h'⟩|h);·exact .inr ⟨x,h,rfl,h'⟩
   exact .inl h
  rintro(h|⟨k,h1,h2,h3⟩);·exact .inr h
  exact .inl ⟨h2▸h1,h2▸h3⟩
 rintro j ay f⟨rfl,rfl,rfl⟩;exact⟨rfl,rfl,rfl⟩
section
def zG(a:Nat):bw:=.seq (.region [bG 11 (.aW (tt 2)),bG 12 (.bf (tt 0)),bG 13 (.lookup .int (.int 3 (.ofNat 0)) true (tt 11) (tt 12)),bG 10 (.bf (tt 13)),bG 14 (.extract (tt 10) 0),bG 15 (.extract (tt 10) 1),bG 8 (.bf (tt 14)),bG 9 (.bf (tt 15))])
  (.seq (.region [bG 16 (.bf (tt 9)),bG 17 (.unary .not (tt 16)),bG 18 (.bf (tt 17)),⟨some (sl 19),.bf (tt 8),some (sl 18,false),[],[]⟩,⟨some (sl 20),.bf (tt 1),some (sl 18,false),[],[]⟩,⟨some (sl 21),.arith .geq 3 (tt 19) (tt 20),some (sl 18,false),[],[]⟩,bG 22 (.pick (tt 18) (.c (.bool true)) (tt 21))])
  (.cond (tt 22) (.region [bG 23 (.aW (tt 3)),bG 24 (.aW (tt 4)),bG 25 (.dH 1 (tt 23) (tt 24)),bG 26 (.aW (tt 25)),bG 27 (.bf (tt 0)),bG 28 (.call (.c (.func a [] [])) [tt 26,tt 27]),bG 29 (.bf (tt 28)),⟨some (sl 30),.aW (tt 5),some (sl 29,false),[],[]⟩,bG 31 (.pick (tt 29) (.c (.bool true)) (tt 30)),pg (.store 1 (tt 5) (tt 31))]) .skip))
def xm:bw:=.seq (.region [bG 4 (.bf (.c (.bool false)))]) (.seq (.region [bG 6 (.bf (tt 0)),bG 7 (.bf (tt 1)),bG 8 (.lookup .int (.bool false) false (tt 6) (tt 7)),bG 9 (.unary .not (tt 8)),bG 5 (.bf (tt 9))])
  (.seq (.region [bG 10 (.bf (tt 0)),bG 11 (.bf (tt 1)),pg (.jK .int (tt 10) (tt 11) (.c (.bool true)))]) (.seq (.region [bG 12 (.bf (tt 5)),bG 4 (.bf (tt 12))]) .ret)))
def nU(dp a:Nat):Nat->aX:=λf=>if ahr f dp then .code 32 [] (zG a)else if ahr f a then .code 13 [.tmp (sl 4)] xm else .none
section
variable[Ov]
variable{ac:Nat->aX}
theorem Xo.BC{op:bJ}{g:Option (ah×Bool)}{v:AV}(hg:d8 A g=true)(he:aH op A B=some (v,H'))(h:Xo ac n X ⟨aQ A Q v,J,P⟩ H' D):Xo ac (n+1) (⟨Q,op,g,[],[]⟩::X) ⟨A,J,P⟩ B D:=by simp only[Xo,Go.al.aA,hg,dF,dj,dQ,bg];grind[aH]
theorem Xo.BD{op:bJ}{g:Option (ah×Bool)}(hg:d8 A g=false)(hd:ka A g=true)(h:Xo ac n X ⟨aQ A Q .ai8,J,P⟩ B D):Xo ac (n+1) (⟨Q,op,g,[],[]⟩::X) ⟨A,J,P⟩ B D:=by simp[hg,hd,h,Xo,Go.al.aA,abH,bF,bg]
theorem Xf.code{args a:List AV}{c:List gO}(e:ac V=.code O c d)(hl:(f++args++a).length<=O)(i:Xc ac n d ⟨jL (f++args++a) .xH .ch,[],none⟩ B λj fr b=>(match j with|.exit _=>False|_=>True)/\fr.bA=[]/\∃l,fH fr.af b c=some l/\h (gC l) b):Xf ac (n+1) (.func V f a) args B h:=by simp only[Xf,fC,e];rw[aF (ahV hl)];refine Xc.mono (aeE _) ?_ i;rintro j fr b⟨h1,h2,l,h3,g⟩;grind[iI]
def ia(pl:List (Int×Int))(v:Int):Int×Bool:=
 match pl with
 |[]=>(0,false)
 |(k,g)::pl=>if gz v k then(g,true)else ia pl v
theorem JC(bq v:Int):∀pl,eh.pA pl bq v=(!(ia pl v).2||!j7 (ia pl v).1 bq)
 |[]=>by rfl
 |(k,g)::pl=>by
  simp only[eh.pA,ia];split;·rfl
  exact JC bq v pl
theorem R8{pl:List (Int×Int)}(h:v∉pl.map (·.1)):ia pl v=(0,false):=by
 induction pl with
 |nil=>rfl
 |cons a pl b=>
  have⟨k,g⟩:=a;simp only[ahk,ac2,not_or]at h;have:gz v k=false:=by rw[dW];simpa using h.1
  simp[this,b,h,ia,abH,bF]
theorem JD:∀{es:List aV}{pl:List (Int×Int)}{ks:List Int},jQ.go es=some pl->iB es=some ks->ks=pl.map (·.1)
 |[],pl,ks,h,b=>by simp only[jQ.go,iB,aa9]at h b;subst h;subst b;rfl
 |a::es,pl,ks,h,b=>by
  simp only[jQ.go]at h;split at h
  .rename_i k v l h1 h2 h3;injection h with h;subst h;simp only[iB,h1]at b;split at b;·rename_i e f c d;injection b with b;subst b;injection c with _ c;rw[ahk,<-JD h3 d,c]
   cases b
  cases h
theorem JE:∀{es:List aV}{pl:List (Int×Int)},jQ.go es=some pl->∀i0,((ia pl v).2=false->findKey .int (.int 3 v) es i0=some none)/\((ia pl v).2=true->∃i,findKey .int (.int 3 v) es i0=some (some (i,.int 3 (ia pl v).1)))
 |[],pl,h,i0=>by simp_all[jQ.go,aa9,ia,findKey]
 |a::es,pl,h,i0=>by
  simp only[jQ.go]at h;split at h
  .rename_i k g l h1 h2 h3;injection h with h;subst h;have b:db 64 .int (.int 3 v) (.int 3 k)=some (gz v k):=by simp[db]
   cases hb:gz v k with|true=>simp[hb,h1,b,h2,ia,bg,findKey]|false=>simp only[ia,hb,abH,bF,findKey,h1,b];exact JE h3 (i0+1)
  grind
theorem JF{v:Int}:∀{es:List aV}{pl:List (Int×Int)},jQ.go es=some pl->(pl.map (·.1)).Nodup->((ia pl v).2=false->eN.go .int (.int 3 v) es=some none)/\((ia pl v).2=true->eN.go .int (.int 3 v) es=some (some (.int 3 (ia pl v).1)))
 |[],pl,h,_=>by simp_all[jQ.go,aa9,ia,eN.go]
 |a::es,pl,h,b=>by
  simp only[jQ.go]at h;split at h
  .rename_i k g l h1 h2 h3;injection h with h;subst h;simp only[ahk,ahT]at b;have c:db 64 .int (.int 3 v) (.int 3 k)=some (gz v k):=by simp[db]
   have⟨d,e⟩:=JF (v:=v) h3 b.2;cases hb:gz v k with|true=>simp_all[dW,R8,ia,bg,eN.go]|false=>simp_all[ia,abH,bF,eN.go]
  grind
theorem R9{pl:List (Int×Int)}(l:gv A a=.map N)(m:gv A ok_=.int 3 v)(h1:jQ H N=some pl)(h2:iD H N=some E):aH (.lookup .int (.int 3 (.ofNat 0)) true a ok_) A H=some (.tuple [.int 3 (ia pl v).1,.bool (ia pl v).2],H):=by
 have⟨es,b,o,p⟩:=uz h2;unfold jQ at h1;rw[b]at h1;have d:(pl.map (·.1)).Nodup:=by rw[<-JD h1 o];exact p
 have⟨n,e⟩:=JE (v:=v) h1 0;have⟨q,r⟩:=JF (v:=v) h1 d;have s:(ia pl v).2=false->(ia pl v).1=0:=by
  clear n e q r h1 d;induction pl with
  |nil=>intro _;rfl
  |cons u pl t=>
   have⟨k,g⟩:=u;simp only[ia];split;·intro h;cases h
   exact t
 cases f:H.get N with
 |map j c=>rw[f]at b;simp only[dC,aa9]at b;subst b;cases hb:(ia pl v).2 with|true=>have⟨i,e⟩:=e hb;simp[l,m,f,e,aH,iH,ahN,abH,bF,bg]|false=>simp[s,hb,l,m,f,n,aH,iH,ahN,abH,bF,bg]
 |cK j=>rw[f]at b;simp only[dC,aa9]at b;subst b;cases hb:(ia pl v).2 with|true=>simp_all[aH,iH,ahN,abH,bF,eN,rl,bg]|false=>simp_all[aH,iH,ahN,abH,bF,eN,rl,bg]
 |_=>simp_all[dC]
end
end
section
variable[Ov]
variable{ac:Nat->aX}
theorem Sc(d:ac O=.code 13 [.tmp (sl 4)] xm)(hs:fx (H.get N) ks)(f:∀a:ai,a.next=H.next->(∀j,j≠N->a.get j=H.get j)->fx (a.get N) (mW v ks)->(∀es c,H.get N=.map es c->v∈ks->a.get N=H.get N)->h (.bool (!fP v ks)) a):Xf ac 30 (.func O [] []) [.map N,.int 3 v] H h:=by
 refine Xf.code (n:=29) d aC ?_;show Xc ac 29 xm ⟨(az.ch.set .ai8 (sl 0) (.map N)).set .ai8 (sl 1) (.int 3 v),[],none⟩ H _;generalize b:(az.ch.set AV.ai8 (sl 0) (.map N)).set .ai8 (sl 1) (.int 3 v)=af;have h0:af.get .ai8 (sl 0)=.map N:=by rw[<-b];simp[az.aG,bE]
 have h1:af.get .ai8 (sl 1)=.int 3 v:=by rw[<-b];simp[az.aG,bE]
 refine Xc.hZ (n:=28) (m:=28) (k:=28) aC aC (Xc.region (n:=27) (Xo.op (n:=26) (v:=.bool false) (H':=H) (by rfl) (Xo.nil (n:=25) (Xc.hZ (n:=27) (m:=27) (k:=27) aC aC (Xc.region (n:=26) (Xo.op (n:=25) (v:=.map N) (H':=H) (by simp[h0,aH,gv,aQ,az.aG,bE]) (Xo.op (n:=24) (v:=.int 3 v) (H':=H) (by simp[h1,aH,gv,aQ,az.aG,bE]) (Xo.op (n:=23) (v:=.bool (fP v ks)) (H':=H) (Jz (N:=N) (x:=v) (by rfl) (by rfl) hs) (Xo.op (n:=22) (v:=.bool (!fP v ks)) (H':=H) (by rfl) (Xo.op (n:=21) (v:=.bool (!fP v ks)) (H':=H) (by rfl) (Xo.nil (n:=20) (Xc.hZ (n:=26) (m:=26) (k:=26) aC aC (Xc.region (n:=25) ?_)))))))))))));obtain⟨a,g,i,k,l,m⟩:=EF (H:=H) (N:=N) (x:=v) (ks:=ks) (af:=aQ (aQ (aQ (aQ (aQ (aQ (aQ (aQ af (some (sl 4)) (.bool false)) (some (sl 6)) (.map N)) (some (sl 7)) (.int 3 v)) (some (sl 8)) (.bool (fP v ks))) (some (sl 9)) (.bool (!fP v ks))) (some (sl 5)) (.bool (!fP v ks))) (some (sl 10)) (.map N)) (some (sl 11)) (.int 3 v)) (om:=tt 10) (ok_:=tt 11) (by rfl) (by rfl) hs;refine Xo.op (n:=24) (v:=.map N) (H':=H) (by simp[h0,aH,gv,aQ,az.aG,bE]) (Xo.op (n:=23) (v:=.int 3 v) (H':=H) (by simp[h1,aH,gv,aQ,az.aG,bE]) (Xo.op (n:=22) (v:=.ai8) (H':=a) g (Xo.nil (n:=21) (Xc.hZ (n:=25) (m:=25) (k:=25) aC aC (Xc.region (n:=24) (Xo.op (n:=23) (v:=.bool (!fP v ks)) (H':=a) (by rfl) (Xo.op (n:=22) (v:=.bool (!fP v ks)) (H':=a) (by rfl) (Xo.nil (n:=21) (Xc.ret (n:=24) ⟨trivial,rfl,[.bool (!fP v ks)],?_,f a i k l λes c e n=>(m es c e).elim λ_ h1=>h1.elim λ_ h2=>h2.2 n⟩)))))))));rfl
theorem Sd(h:B.get N=.cells A O u true [] V)(h1:V<=n)(h2:n<O)(b:Bool):gF B N n [.bool b]=some (B.set N (.cells (ez A n [.bool b]) O u true [] V)):=by
 unfold gF;rw[h];have a:decide (V<=n)=true:=by simpa using h1
 have c:decide (n+([.bool b]:List AV).length<=O)=true:=by simp;omega
 simp only[a,c,aiU];rfl
theorem JG(S:ac u=.code 32 [] (zG V))(T:ac V=.code 13 [.tmp (sl 4)] xm){c1 c3:AV}{fz e:Nat}{pl:List (Int×Int)}{bq b:Int}{c:az AV}{q:Bool}(E:l9 H c1=some (.map pm))(F:l9 H Y=some s2)(G:l9 H c3=some (.int kb b))(W:jQ H pm=some pl)(X:iD H pm=some pks)(Z:kg H s2 b=some (.map N))(D:H.get w=.cells c n e true [] fz)(g8:fz<=O)(R:O<n)(B:c.br .ai8 O=.bool q)(hs:fx (H.get N) ks)(t:∀(r:AV)(g:ai)C Y,g.next=H.next->(∀j,j≠N->j≠w->g.get j=H.get j)->fx (g.get N) C->(∀x,x∈C↔x∈ks\/(x=v/\eh.pA pl bq v=true))->g.get w=.cells Y n e true [] fz->(∀i,i≠O->Y.br .ai8 i=c.br .ai8 i)->Y.br .ai8 O=.bool (q||(eh.pA pl bq v&&!fP v ks))->(∀es c,H.get N=.map es c->v∈ks->g.get N=H.get N)->h r g):Xf ac 80 (.func u [] [c1,Y,c3,.aD w O]) [.int 3 v,.int 3 bq] H h:=by
 obtain⟨I,o1,rfl,E⟩:=sY E;obtain⟨z,o2,rfl,F⟩:=sY F;obtain⟨A,o3,rfl,G⟩:=sY G;have⟨is,os,ns,ag,av,js,e5,e6,e7,c5⟩:=zE Z;have o:N≠w:=by rintro rfl;have⟨_,_,aw,_⟩:=hs;rw[D]at aw;simp[dC]at aw
 have gq:aY H w O=some (.bool q):=by unfold aY;rw[D];simp only[ai5 aib R,bg,B]
 refine Xf.code (n:=79) S aC ?_;show Xc ac 79 (zG V) ⟨(((((az.ch.set .ai8 (sl 0) (.int 3 v)).set .ai8 (sl 1) (.int 3 bq)).set .ai8 (sl 2) (.aD I o1)).set .ai8 (sl 3) (.aD z o2)).set .ai8 (sl 4) (.aD A o3)).set .ai8 (sl 5) (.aD w O),[],none⟩ H _;generalize k:(((((az.ch.set AV.ai8 (sl 0) (.int 3 v)).set .ai8 (sl 1) (.int 3 bq)).set .ai8 (sl 2) (.aD I o1)).set .ai8 (sl 3) (.aD z o2)).set .ai8 (sl 4) (.aD A o3)).set .ai8 (sl 5) (.aD w O)=af;have h0:af.get .ai8 (sl 0)=.int 3 v:=by rw[<-k];simp[az.aG,bE]
 have h1:af.get .ai8 (sl 1)=.int 3 bq:=by rw[<-k];simp[az.aG,bE]
 have h2:af.get .ai8 (sl 2)=.aD I o1:=by rw[<-k];simp[az.aG,bE]
 have h3:af.get .ai8 (sl 3)=.aD z o2:=by rw[<-k];simp[az.aG,bE]
 have h4:af.get .ai8 (sl 4)=.aD A o3:=by rw[<-k];simp[az.aG,bE]
 have h5:af.get .ai8 (sl 5)=.aD w O:=by rw[<-k];simp[az.aG,bE]
 rw[JC]at t;generalize hg:(ia pl v).1=m at t;generalize hi:(ia pl v).2=ii at t;have p:=λ(af:az AV)(om M:aJ)(hm:gv af om=.map pm)(hk:gv af M=.int 3 v)=>R9 (H:=H) hm hk W X;rw[hg,hi]at p;refine Xc.hZ (n:=70) (m:=70) (k:=78) aC aC (Xc.region (n:=69) (Xo.op (n:=68) (v:=.map pm) (H':=H) (iq (by trivial) E) (Xo.op (n:=67) (v:=.int 3 v) (H':=H) (by simp[h0,aH,gv,aQ,az.aG,bE]) (Xo.op (n:=66) (v:=.tuple [.int 3 m,.bool ii]) (H':=H) (p _ _ _ (by rfl) (by rfl)) (Xo.op (n:=65) (v:=.tuple [.int 3 m,.bool ii]) (H':=H) (by rfl) (Xo.op (n:=64) (v:=.int 3 m) (H':=H) (by rfl) (Xo.op (n:=63) (v:=.bool ii) (H':=H) (by rfl) (Xo.op (n:=62) (v:=.int 3 m) (H':=H) (by rfl) (Xo.op (n:=61) (v:=.bool ii) (H':=H) (by rfl) (Xo.nil (n:=60) ?_))))))))));generalize k:aQ (aQ (aQ (aQ (aQ (aQ (aQ (aQ af (some (sl 11)) (.map pm)) (some (sl 12)) (.int 3 v)) (some (sl 13)) (.tuple [.int 3 m,.bool ii])) (some (sl 10)) (.tuple [.int 3 m,.bool ii])) (some (sl 14)) (.int 3 m)) (some (sl 15)) (.bool ii)) (some (sl 8)) (.int 3 m)) (some (sl 9)) (.bool ii)=a;have k0:a.get .ai8 (sl 0)=.int 3 v:=by rw[<-k];simp[aQ,az.aG,bE];exact h0
 have k1:a.get .ai8 (sl 1)=.int 3 bq:=by rw[<-k];simp[aQ,az.aG,bE];exact h1
 have k3:a.get .ai8 (sl 3)=.aD z o2:=by rw[<-k];simp[aQ,az.aG,bE];exact h3
 have k4:a.get .ai8 (sl 4)=.aD A o3:=by rw[<-k];simp[aQ,az.aG,bE];exact h4
 have k5:a.get .ai8 (sl 5)=.aD w O:=by rw[<-k];simp[aQ,az.aG,bE];exact h5
 have k8:a.get .ai8 (sl 8)=.int 3 m:=by rw[<-k];simp[aQ,az.aG,bE]
 have k9:a.get .ai8 (sl 9)=.bool ii:=by rw[<-k];simp[aQ,az.aG,bE]
 have cond:∀d:az AV,d.get .ai8 (sl 22)=.bool (!ii||!j7 m bq)->d.get .ai8 (sl 0)=.int 3 v->d.get .ai8 (sl 3)=.aD z o2->d.get .ai8 (sl 4)=.aD A o3->d.get .ai8 (sl 5)=.aD w O->Xc ac 60 (.cond (tt 22) (.region [bG 23 (.aW (tt 3)),bG 24 (.aW (tt 4)),bG 25 (.dH 1 (tt 23) (tt 24)),bG 26 (.aW (tt 25)),bG 27 (.bf (tt 0)),bG 28 (.call (.c (.func V [] [])) [tt 26,tt 27]),bG 29 (.bf (tt 28)),⟨some (sl 30),.aW (tt 5),some (sl 29,false),[],[]⟩,bG 31 (.pick (tt 29) (.c (.bool true)) (tt 30)),pg (.store 1 (tt 5) (tt 31))]) .skip) ⟨d,[],none⟩ H λj fr H'=>(match j with|.exit _=>False|_=>True)/\fr.bA=[]/\∃l,fH fr.af H' []=some l/\h (gC l) H':=by
  intro d s m0 m3 m4 J;cases hl:(!ii||!j7 m bq)with
  |false=>rw[hl]at s t;refine Xc.lJ (n:=59) (by simp[gv];exact s) (Xc.skip (n:=58) ⟨trivial,rfl,[],rfl,t _ H ks c rfl (λ_ _ _=>rfl) hs aC D (λ_ _=>rfl) (by simpa using B) (λ_ _ _ _=>rfl)⟩)
  |true=>
   rw[hl]at s t;refine Xc.mU (n:=59) (by simp[gv];exact s) (Xc.region (n:=58) ?_);refine Xo.op (n:=57) (v:=s2) (H':=H) (iq (by simp[gv];exact m3) F) ?_;refine Xo.op (n:=56) (v:=.int kb b) (H':=H) (iq (by simp[gv,aQ,az.aG,bE];exact m4) G) ?_;refine Xo.op (n:=55) (v:=.aD is (os+js)) (H':=H) (sZ (by simp[gv,aQ,az.aG,bE];exact e5) (by simp[gv,aQ,az.aG,bE];exact⟨rfl,e6⟩) e7) ?_;refine Xo.op (n:=54) (v:=.map N) (H':=H) (iq (by simp[gv,aQ,az.aG,bE]) c5) ?_;refine Xo.op (n:=53) (v:=.int 3 v) (H':=H) (by simp[aH,gv,aQ,az.aG,bE];exact m0) ?_;refine Xo.call (n:=52) ?_;simp only[gv,aQ,az.aG,bE,ahk,aiz];refine Xf.mono (n:=30) aa (λ_ _ aw=>aw) (Sc T hs λg w1 L w3 w4=>?_);have P:g.get w=.cells c n e true [] fz:=by rw[L _ (aiZ o)];exact D
   have Q:aY g w O=some (.bool q):=by rw[mX (L w (aiZ o))];exact gq
   refine Xo.op (n:=51) (v:=.bool (!fP v ks)) (H':=g) (by simp[aH,gv,aQ,az.aG,bE]) ?_;have aq:∀f:az AV,f.get .ai8 (sl 5)=.aD w O->f.get .ai8 (sl 31)=.bool (q||!fP v ks)->Xo ac 40 [pg (.store 1 (tt 5) (tt 31))] ⟨f,[],none⟩ g λfr H'=>(match cC.none with|.exit _=>False|_=>True)/\fr.bA=[]/\∃l,fH fr.af H' []=some l/\h (gC l) H':=by
    intro f p5 uD;refine Xo.op (n:=39) (v:=.ai8) (H':=g.set w (.cells (ez c O [.bool (q||!fP v ks)]) n e true [] fz)) ?_ (Xo.nil (n:=38) ?_);·have e1:gv f (tt 5)=.aD w O:=p5;have e2:gv f (tt 31)=.bool (q||!fP v ks):=uD;simp only[aH,e1,e2,AV.cells,ahK,List.length_nil,Sd P g8 R];rfl
    refine⟨trivial,rfl,[],rfl,t _ _ (mW v ks) (ez c O [.bool (q||!fP v ks)]) w1 (λj j1 j2=>?_) ?_ (λx=>?_) ?_ (λi hi=>?_) ?_ (λes c he hv=>by rw[ai.aG,an o];exact w4 es c he hv)⟩;·rw[ai.aG,an j2];exact L j j1
    .rw[ai.aG,an o];exact w3
    .rw[zw];simp[or_comm]
    .rw[ai.aG,aF rfl]
    .rw[lg];rw[an (by simp;omega)]
    rw[lg];simp
   cases y:fP v ks with|true=>rw[y]at aq;refine Xo.BC (n:=50) (v:=.bool q) (H':=g) (by simp[d8,aQ,az.aG,bE,y]) (iq (by simp[gv,aQ,az.aG,bE];exact J) Q) ?_;refine Xo.op (n:=49) (v:=.bool (q||!true)) (H':=g) (by simp[aH,gv,aQ,az.aG,bE,y]) ?_;exact(aq _ (by simp[aQ,az.aG,bE];exact J) (by simp[aQ,az.aG,bE])).mono aa (λ_ _ aw=>aw)|false=>rw[y]at aq;refine Xo.BD (n:=50) (by simp[d8,aQ,az.aG,bE,y]) (by simp[ka,aQ,az.aG,bE,y,AV.bk]) (Xo.op (n:=49) (v:=.bool (q||!false)) (H':=g) (by simp[aH,gv,aQ,az.aG,bE,y]) ?_);exact(aq _ (by simp[aQ,az.aG,bE];exact J) (by simp[aQ,az.aG,bE])).mono aa (λ_ _ aw=>aw)
 refine Xc.hZ (n:=60) (m:=60) (k:=69) aC aC (Xc.region (n:=59) (Xo.op (n:=58) (v:=.bool ii) (H':=H) (by simp[k9,aH,gv]) (Xo.op (n:=57) (v:=.bool (!ii)) (H':=H) (by rfl) (Xo.op (n:=56) (v:=.bool (!ii)) (H':=H) (by rfl) ?_))));cases ii with|true=>exact Xo.BC (n:=55) (v:=.int 3 m) (H':=H) (by rfl) (by simp[k8,aH,gv,aQ,az.aG,bE]) (Xo.BC (n:=54) (v:=.int 3 bq) (H':=H) (by rfl) (by simp[k1,aH,gv,aQ,az.aG,bE]) (Xo.BC (n:=53) (v:=.bool (!j7 m bq)) (H':=H) (by rfl) (by rfl) (Xo.op (n:=52) (v:=.bool (!j7 m bq)) (H':=H) (by rfl) (Xo.nil (n:=51) (cond _ (by rfl) (by trivial) (by trivial) (by trivial) (by trivial))))))|false=>exact Xo.BD (n:=55) (by rfl) (by rfl) (Xo.BD (n:=54) (by rfl) (by rfl) (Xo.BD (n:=53) (by rfl) (by rfl) (Xo.op (n:=52) (v:=.bool true) (H':=H) (by rfl) (Xo.nil (n:=51) (cond _ (by rfl) (by trivial) (by trivial) (by trivial) (by trivial))))))
end
section
theorem zH(pl:List (Int×Int))(bq x:Int):∀l,x∈eh pl bq l↔x∈l/\eh.pA pl bq x=true
 |[]=>by simp[eh]
 |y::l=>by
  simp only[eh];split
  .rename_i h;rw[ac2,zH pl bq x l,ac2];constructor
   .rintro(h1|⟨h1,h2⟩);·exact⟨.inl h1,h1▸h⟩
    exact⟨.inr h1,h2⟩
   rintro⟨h1|h1,h2⟩;·exact .inl h1
   exact .inr ⟨h1,h2⟩
  rename_i h;rw[zH pl bq x l,ac2];constructor;·rintro⟨h1,h2⟩;exact⟨.inr h1,h2⟩
  rintro⟨h1|h1,h2⟩;·rw[h1]at h2;exact absurd h2 h
  exact⟨h1,h2⟩
theorem EJ(t0:List Int):∀l,kG t0 l=true↔∃x∈l,x∉t0
 |[]=>by simp[kG]
 |y::l=>by
  simp only[kG,aij,EJ t0 l,ah3,ac2];have:fP y t0=false↔y∉t0:=by rw[<-qz];simp
  grind
section
variable[Ov]
theorem uE(h:kH B N Y=some s2):∃i o,Y=.aD i o/\i≠N/\aY B i o=some s2:=by
 unfold kH at h;split at h
 .split at h;·grind
  rename_i hb;exact⟨_,_,rfl,λe=>hb (by rw[e];exact ah.ft.2 rfl),h⟩
 grind
theorem EK(h:rN B N Y v=some s2):∃i o n c e j,Y=.slice i o n c e/\v=.ofNat j/\j<n/\i≠N/\aY B i (o+j)=some s2:=by
 unfold rN at h;split at h
 .split at h;·grind
  rename_i hb;have⟨i,o,n,c,e,j,h1,h2,h3,a⟩:=zE h;injection h1 with b d f g k;subst b;subst d;subst f;exact⟨_,_,_,_,_,j,rfl,h2,h3,λe=>hb (by rw[e];exact ah.ft.2 rfl),a⟩
 grind
theorem bm.Se(h:bm F W S B M){i:ah}{o':bR}(hi:B.get i≠.none)(f:(B.get i).jO=false)(g:(B.get i).aK=[])(c:o'.aK=[])(j:∀x a,OR F S (B.get i) x a->OR F S o' x a)(k:∀q a,eQ F q (B.get i) a->eQ F q o' a):bm F W S (B.set i o') M:=by have⟨b,x,a,e,hl,hb,d⟩:=h.aE hi;have:=(h.pi (w':=M) hi f e c (j x a d) (k _ _ (h.iK i b x a hi e hb)) (by rw[D1 hb]) rfl rfl rfl).1;rw[g]at this;exact this
theorem Sf{j:Type}{f:e->j}{l k:List j}(h:l.Perm k):∀t:List e,k=t.map f->∃d:List e,l=d.map f/\d.Perm t:=by
 induction h with
 |nil=>intro t c;exact⟨[],rfl,by cases t<;>simp_all⟩
 |cons x _ m=>intro t c;cases t with|nil=>simp at c|cons a t=>simp only[ahk,ahD]at c;have⟨d,q,p⟩:=m t c.2;exact⟨a::d,by rw[ahk,<-q,c.1],p.cons a⟩
 |swap x y l=>intro t c;match t,c with|a::b::t,c=>simp only[ahk,ahD]at c;exact⟨b::a::t,by rw[ahk,ahk,c.1,c.2.1,c.2.2],ah5 ..⟩|[a],c=>simp at c|[],c=>simp at c
 |trans _ _ g i=>intro t c;have⟨t2,n,p2⟩:=i t c;have⟨t1,o,p1⟩:=g t2 n;exact⟨t1,o,p1.trans p2⟩
theorem JH(cd:O≠V)(ht:lI F (nU O V)){b:Frame}{a:Act}{c1 c2:Code}{X Z ok et ex kv:ah}(h1:eJ F z c1=some d)(h2:eJ F z c2=some (pz e1 nt X Z ok et ex kv x))(cf:e1≠nt)(d1:X≠Z)(d2:X≠ok)(d3:Z≠ok)(d4:X≠et)(d5:et≠ex)(d6:X≠ex)(d7:X≠kv){co:List ah}(s1:Z∈co)(s2:ok∈co)(s3:et∈co)(s4:ex∈co)(s5:kv∈co)(hF:gI S z L b.roundOf a)(hI:bm F W S B M){bq:Int}{ca a3 Q:AV}{fz e:Nat}{pl:List (Int×Int)}{c:az AV}{I:Bool}(g1:kH B B1 Y=some (.map pm))(g2:kH B B1 ca=some Q)(g3:kH B B1 a3=some (.int kb v))(g4:jQ B pm=some pl)(g5:iD B pm=some pks)(g6:rN B B1 Q v=some (.map N))(g7:B.get B1=.cells c n e true [] fz)(g8:fz<=u)(g9:u<n)(a6:c.br .ai8 u=.bool I)(hk:iD B w=some ks)(hN:iC B N=some E)(cn:pm≠N)(cp:w≠pm)(nh fb:Nat)(b4:∀m f,Xc (nU O V) nh d L (B.set w (.map m f)) λj G p=>j=.none/\G.bA=L.bA/\G.bx=L.bx/\(∀t,t∉co->G.af.get .ai8 t=L.af.get .ai8 t)/\G.af.get .ai8 X=.aD B.next 0/\p=(B.set w (.map m f)).new (.mapIter (some w) f [] f))(a2:∀af p kk(K:cC->Fr->ai->Prop),(∀j,j≠N->j≠w->j≠B.next->j≠B1->p.get j=B.get j)->(∀t,t∉co->af.get .ai8 t=L.af.get .ai8 t)->af.get .ai8 kv=.int 3 kk->Xf (nU O V) 80 (.func O [] [Y,ca,a3,.aD B1 u]) [.int 3 kk,.int 3 bq] p (λ_ H2=>∀D,(∀t,t∉co->D.get .ai8 t=af.get .ai8 t)->D.get .ai8 X=af.get .ai8 X->K .none ⟨D,L.bA,L.bx⟩ H2)->Xc (nU O V) fb x ⟨af,L.bA,L.bx⟩ p K)(k:List Item)(cs:List Frame):gY F W S z M b k cs (lone (b.atR a (.code (.seq c1 c2)::k)) cs M) λj G p=>j=.none/\G={L with af:=jn L.af co}/\p=((B.set N (.cK (dt (eX (eh pl bq ks) E)))).set B1 (.cells (ez c u [.bool (I||kG E (eh pl bq ks))]) n e true [] fz)).skip:=by
 have⟨es,hm,a8,dx⟩:=uz hk;have s:=nT hN;have ay:N≠B.next:=λe=>by have:=(hI.du B.next (aeE _)).1;have⟨_,q,q1,_⟩:=s;rw[e,this]at q1;simp[dC]at q1
 have a':w≠B.next:=λe=>by have:=(hI.du B.next (aeE _)).1;rw[<-e]at this;rw[this]at hm;simp[dC]at hm
 have a1:B1≠B.next:=λe=>by have:=(hI.du B.next (aeE _)).1;rw[<-e,g7]at this;cases this
 have b6:N≠B1:=by rintro rfl;have⟨_,_,h,_⟩:=s;rw[g7]at h;simp[dC]at h
 have aw:w≠B1:=by rintro rfl;rw[g7]at hm;simp[dC]at hm
 have⟨dy,ag,_⟩:=uz g5;have cv:pm≠B.next:=λe=>by have:=(hI.du B.next (aeE _)).1;rw[<-e]at this;rw[this]at ag;simp[dC]at ag
 have b7:pm≠B1:=by rintro rfl;rw[g7]at ag;simp[dC]at ag
 have ba:w=N->es.map aV.kv=E.map sk/\∀eb,eb∈ks↔eb∈E:=λe=>by
  have⟨_,dz,av,C⟩:=s;rw[<-e,hm]at av;injection av with av;subst av;have⟨Y,ca⟩:=xj a8;refine⟨C,λeb=>⟨λhx=>?_,λhx=>?_⟩⟩;·have⟨e,he,hk⟩:=ca eb hx;have:=ahG (f:=aV.kv) he;rw[C]at this;have⟨y,hy,bb⟩:=ahm.1 this;simp only[sk,aV.kv,hk,afm,AV.int.injEq]at bb;rw[<-bb.1.2];exact hy
  have:=ahG (f:=sk) hx;rw[<-C]at this;have⟨e,he,bc⟩:=ahm.1 this;have⟨y,hy,cx⟩:=Y e he;simp only[sk,aV.kv,cx,afm,AV.int.injEq]at bc;rw[<-bc.1.2];exact hy
 have⟨i1,o1,ax,cy,k1⟩:=uE g1;have⟨i2,o2,e2,cE,k2⟩:=uE g2;have⟨i3,o3,e3,cR,k3⟩:=uE g3;have⟨is,os,ns,d0,d',js,e5,e6,e7,c8,k5⟩:=EK g6;have⟨Ns,c9⟩:=zF hN;have ha:nU O V O=.code 32 [] (zG V):=by simp[nU]
 have hw:nU O V V=.code 13 [.tmp (sl 4)] xm:=by
  have:ahr V O=false:=by cases h:ahr V O with|false=>rfl|true=>exact absurd (ahn h).symm cd
  simp[nU,this]
 refine EH ht h1 h2 cf d1 d2 d3 d4 d5 d6 d7 s1 s2 s3 s4 s5 hF hI hm a8 nh fb b4 (J:=λm f l p=>p.next=B.next.succ/\(∀j,j≠N->j≠w->j≠B.next->j≠B1->p.get j=B.get j)/\p.get w=.map m f/\(∀eb∈l,eb∈ks)/\∃g T q,fx (p.get N) g/\(∀eb,eb∈g↔eb∈E\/(eb∈l/\eh.pA pl bq eb=true))/\p.get B1=.cells T n e true [] fz/\(∀i,i≠u->T.br .ai8 i=c.br .ai8 i)/\T.br .ai8 u=.bool q/\(q=true↔I=true\/∃eb∈g,eb∉E)) ?_ ?_ ?_ ?_ ?_ k cs
 .intro m f c';have bv:((B.set w (.map m f)).new (.mapIter (some w) f [] f)).get B1=.cells c n e true [] fz:=by rw[ai.cL,ai.eK,an a1,ai.aG,an (aiZ aw)];exact g7
  have b0:((B.set w (.map m f)).new (.mapIter (some w) f [] f)).get w=.map m f:=by rw[ai.cL,ai.eK,an a',ai.aG,aF rfl]
  refine⟨rfl,λj j1 j2 j3 _=>?_,b0,λeb hx=>(by grind),?_⟩;·simp[j3,j2,ai.cL,ai.eK,an,ai.aG]
  by_cases A:w=N
  .have⟨C,_⟩:=ba A;have⟨g,x1,x2⟩:=Sf c' E C;refine⟨g,c,I,?_,λeb=>by grind,bv,λ_ _=>rfl,a6,?_⟩;·rw[<-A,b0];exact⟨x2.nodup_iff.2 s.1,m,rfl,x1⟩
   grind
  refine⟨E,c,I,?_,aC,bv,λ_ _=>rfl,a6,aC⟩;simp[ay,A,s,ai.cL,ai.eK,an,ai.aG,aiZ]
 .rintro m f l p o⟨q1,q2,q3,q0,g,T,q,q4,q5,q6,q7⟩;refine⟨q1,λj j1 j2 j3 j4=>?_,?_,q0,g,T,q,?_,q5,?_,q7⟩;·simp[j3,q2,j1,j2,j4,ai.aG,an]
  all_goals simp[a',q3,ay,q4,a1,q6,ai.aG,an]
 .grind
 .rintro m f l af p kk ea⟨q1,q2,q3,q0,g,T,q,q4,q5,q6,q7,q8,q9⟩he C;refine a2 af p kk _ q2 he C ?_;have cc:∀{i o ec},aY B i o=some ec->i≠B1->aY p i o=some ec:=λh hq=>by rw[mX (q2 _ (jR h c9) (jR h hm) (uC hI h) hq)];exact h
  have hp:p.get pm=B.get pm:=q2 pm cn (aiZ cp) cv b7;refine JG ha hw (pm:=pm) (s2:=Q) (N:=N) (pl:=pl) (pks:=pks) (ks:=g) (c:=T) (q:=q) (e:=e) (n:=n) (fz:=fz) (kb:=kb) (b:=v) ?_ ?_ ?_ ?_ ?_ ?_ q6 g8 g9 q8 q4 ?_;·rw[ax];exact cc k1 cy
  .rw[e2];exact cc k2 cE
  .rw[e3];exact cc k3 cR
  .simp_all[jQ]
  .simp_all[iD]
  .simp[e5,e6,e7,cc,k5,c8,kg,ai5,aib,bg]
  intro r H2 dm dr r1 r2 r3 r4 r5 r6 r7 r8 D w1 w2;refine⟨rfl,rfl,rfl,λt ht=>(w1 t ht).trans (he t ht),w2,r2 _ (aiZ ay) (aiZ a1),r1.trans q1,λj j1 j2 j3 j4=>(r2 j j1 j4).trans (q2 j j1 j2 j3 j4),?_,λeb hx=>?_,dm,dr,_,r3,λeb=>?_,r5,λi hi=>(r6 i hi).trans (q7 i hi),r7,?_⟩;·grind
  .grind
  .grind
  rw[aij,ahl,q9,ah3];have hh:fP kk g=false↔kk∉g:=by rw[<-qz];simp
  grind
 rintro m f l p b3 w' hl⟨q1,q2,q3,_,g,T,q,q4,q5,q6,q7,q8,q9⟩ds dv eS;refine⟨b3,ds,?_⟩;have i1:=eS dv q3;have R:∀eb,eb∈g↔eb∈eX (eh pl bq ks) E:=λeb=>by rw[q5,lL,zH,hl,or_comm]
 have hp:g.Perm (eX (eh pl bq ks) E):=(List.perm_ext_iff_of_nodup q4.1 (nR _ s.1)).2 R;have i2:bm F W b3 ((p.set w (B.get w)).set N (.cK (dt (eX (eh pl bq ks) E)))) w':=by
  by_cases A:w=N;·refine i1.uA (N:=N) (ks:=E) (by rw[<-A,ai.aG,aF rfl,A];exact s) ((List.perm_ext_iff_of_nodup s.1 (nR _ s.1)).2 λeb=>?_);rw[lL,zH];exact⟨.inr,λh=>h.elim (λh=>((ba A).2 eb).1 h.1) id⟩
  exact i1.uA (N:=N) (ks:=g) (by rw[ai.aG,an (aiZ A)];exact q4) hp
 have hq:q=(I||kG E (eh pl bq ks)):=by
  have:q=true↔(I||kG E (eh pl bq ks))=true:=by
   rw[q9,aij,EJ];constructor
   .rintro(h|⟨eb,h,h'⟩);·exact .inl h
    have:=(R eb).1 h;rw[lL]at this;exact .inr ⟨eb,this.resolve_right h',h'⟩
   rintro(h|⟨eb,h,h'⟩);·exact .inl h
   exact .inr ⟨eb,(R eb).2 ((lL eb _ _).2 (.inl h)),h'⟩
  cases q<;>cases h:(I||kG E (eh pl bq ks))<;>simp_all
 have J:((p.set w (B.get w)).set N (.cK (dt (eX (eh pl bq ks) E)))).get B1=.cells T n e true [] fz:=by rw[ai.aG,an (aiZ b6),ai.aG,an (aiZ aw)];exact q6
 have i3:=i2.Se (i:=B1) (o':=.cells (ez c u [.bool (I||kG E (eh pl bq ks))]) n e true [] fz) (by rw[J];simp) (by rw[J];rfl) (by rw[J];rfl) rfl (by
  intro eb ob H;rw[J]at H;have b':∀i,(ez c u [.bool (I||kG E (eh pl bq ks))]).br .ai8 i=T.br .ai8 i:=by
   intro i;rw[lg];by_cases hi:i=u;·subst hi;rw[aF aC];rw[q8,hq];simp
   rw[an (by simp;omega),q7 i hi]
  cases ob<;>simp only[OR]at H⊢;refine⟨H.1,H.2.1,λi hi=>?_,H.2.2.2⟩;rw[b'];exact H.2.2.1 i hi) (by intro q ob hq;rw[J]at hq;cases ob<;>simp only[eQ]at hq⊢;exact hq);refine i3.sub (H2:=((B.set N (.cK (dt (eX (eh pl bq ks) E)))).set B1 (.cells (ez c u [.bool (I||kG E (eh pl bq ks))]) n e true [] fz)).skip) (by show B.next.succ=p.next;exact q1.symm) λj=>?_;show((B.set N _).set B1 _).get j=_\/((B.set N _).set B1 _).get j=_;simp only[ai.aG];by_cases e0:j=B1;·left;simp[e0]
 by_cases ax:j=N;·left;simp[e0,ax]
 by_cases e2:j=w;·left;simp[e0,ax,e2]
 by_cases e3:j=B.next;·right;simp only[an ax,an e0];rw[e3];exact(hI.du _ (aeE _)).1
 left;simp only[an e0,an ax,an e2];exact(q2 j ax e2 e3 e0).symm
end
end
theorem JI:zz=[sl 16,sl 53,sl 54,sl 55,sl 56,sl 57,sl 58,sl 59,sl 60,sl 61,sl 62,sl 63,sl 64,sl 65,sl 66,sl 67]:=by rfl
theorem JJ:zA=[sl 19,sl 76,sl 77,sl 78,sl 79,sl 80,sl 81,sl 82,sl 83,sl 84,sl 85,sl 86,sl 87]:=by rfl
theorem BE(h:ah.beq N w=false):N≠w:=λe=>by grind[ah.ft]
theorem JK{k:ah->Option Int}(h:xi n k O J A B=some (q,H)):∃f l o a3 b no p u t g d a v r bq m N c W e fz j i pl t0 s,f=n/\l9 B (A.get .ai8 (sl 11))=some (.func f [] [l,o,a3,.aD b no])/\kH B b (A.get .ai8 (sl 5))=some p/\A.get .ai8 (sl O)=.int u t/\kH B b (A.get .ai8 (sl 11))=some g/\kH B b l=some (.map d)/\kH B b o=some a/\kH B b a3=some (.int v r)/\k b=some bq/\rN B b p t=some (.map m)/\rN B b a r=some (.map N)/\B.get b=.cells c W e true [] fz/\d≠N/\m≠d/\fz<=no/\no<W/\iD B m=some j/\iD B d=some i/\jQ B d=some pl/\iC B N=some t0/\c.br .ai8 no=.bool s/\q=jn A J/\H=((B.set N (.cK (dt (eX (eh pl bq j) t0)))).set b (.cells (ez c no [.bool (s||kG t0 (eh pl bq j))]) W e true [] fz)).skip:=by
 unfold xi at h;split at h;case h_2=>grind
 rename_i f l o a3 b no y;split at h;case isFalse=>grind
 rename_i z;split at h;case h_2=>grind
 rename_i p u t g d a v r bq C D E F G I K;split at h;case h_2=>grind
 rename_i m N c W e fz L w x;split at h;case isTrue=>grind
 rename_i hb;simp only[aij,ah3,Bool.and_eq_false_iff,not_or,Bool.not_eq_true,Bool.not_eq_false]at hb;have⟨⟨b2,M⟩,P,b5⟩:=hb;split at h;case h_2=>grind
 rename_i j i pl t0 s Q R S T V;injection h with h;injection h with h1 h2;exact⟨f,l,o,a3,b,no,p,u,t,g,d,a,v,r,bq,m,N,c,W,e,fz,j,i,pl,t0,s,ahn z,y,C,D,E,F,G,I,K,L,w,x,BE b2,BE M,aht P,Eq.mp aib b5,Q,R,S,T,V,h1.symm,h2.symm⟩
theorem afd(P:O≠V)(s:lI F (nU O V)):uu F 1004 (EA O):=by
 intro Wr ρ H H' w nt fr c1 c2 x y a2 b a Q R z hg hF hI k cs;have z:bw.seq Jq Jr=bw.seq x y:=z;injection z with C hy;subst C;subst hy;unfold EA at hg;obtain⟨f,a8,a',a3,M,no,s5,kt,t,ba,pm,a6,kb,b7,bq,m,N,c,n,e,fz,ks,bb,pl,t0,nw,hf,v1,v2,v3,v4,v5,v6,v7,j,v9,S,T,n2,n3,n4,n5,w1,w2,w3,w4,w5,rfl,rfl⟩:=JK hg;subst hf;have⟨W,X,G,Y⟩:=sY v1;have⟨i5,o5,e5,bc,c5⟩:=uE v2;have⟨bv,eD,r,I,_⟩:=uE v4;rw[G]at r;injection r with q1 q2;subst q1;subst q2;have⟨is,os,ns,b0,b3,js,e6,e7,e8,b4,c6⟩:=EK v9;have⟨ms,Z⟩:=BA w1;have⟨Ns,ag⟩:=zF w4;have av:fr=⟨fr.af,fr.bA,fr.bx⟩:=rfl;have hat:∃q u,fr.af.get .ai8 (sl 7)=.aD q u/\q≠M/\∃D,aY H q (u+1)=some D/\∀(x:aJ)(g:az AV)(E:ai),gv g x=D->aH (.iY x) g E=some (.int 3 bq,E):=by
  split at j;case h_2=>cases j
  rename_i q u aw;split at j;·cases j
  rename_i hb;refine⟨q,u,aw,λe=>hb (by rw[e];exact ah.ft.2 rfl),?_⟩;split at j;·rename_i D A;injection j with j;subst j;exact⟨_,A,λx g E C=>by simp[aH,C]⟩
  .rename_i A;injection j with j;subst j;exact⟨_,A,λx g E C=>by simp[aH,C]⟩
  cases j
 have⟨q,u,ax,ay,D,c7,J⟩:=hat;refine(JH P s Q R (co:=zz) aC bt bt bt bt bt bt bt bt bt bt bt bt hF hI (bq:=bq) v5 v6 v7 w3 w2 S T n4 n5 w5 w1 w4 n2 n3 20 120 ?_ ?_ k cs).mono ?_
 .intro l d;rw[av];refine Xc.region (n:=19) (Xo.op (n:=18) (v:=s5) (H':=H.set m (.map l d)) (iq e5 (by grind[xl,jR])) (Xo.op (n:=17) (v:=.int kt t) (H':=H.set m (.map l d)) (by simp[v3,aH,gv,aQ,az.aG,bE]) ?_));refine Xo.op (n:=16) (v:=.aD is (os+js)) (H':=H.set m (.map l d)) (sZ (by trivial) (by simp[gv,aQ,az.aG,bE];trivial) e8) ?_;refine Xo.op (n:=15) (v:=.map m) (H':=H.set m (.map l d)) (iq (by rfl) (by grind[xl,jR])) ?_;refine Xo.op (n:=14) (v:=.aD H.next 0) (H':=(H.set m (.map l d)).new (.mapIter (some m) d [] d)) (by simp[aH,gv,aQ,az.aG,bE,ai.aG];rfl) (Xo.nil (n:=13) ?_);refine⟨rfl,rfl,rfl,?_,?_,rfl⟩;·intro t s;simp only[JI,ac2,ahv,or_false,not_or]at s;simp[s,aQ,az.aG]
  rfl
 .intro af B kk K L he a1 p;have cc:∀{i o v},aY H i o=some v->i≠M->aY B i o=some v:=λh hq=>by rw[mX (L _ (jR h ag) (jR h Z) (uC hI h) hq)];exact h
  have b6:af.get .ai8 (sl 11)=.aD W X:=by rw[he _ bt];exact G
  refine Xc.region (n:=119) ?_;have h7:af.get .ai8 (sl 7)=.aD q u:=by rw[he _ bt];exact ax
  refine Xo.op (n:=118) (v:=.func f [] [a8,a',a3,.aD M no]) (H':=B) (iq (by trivial) (cc Y I)) (Xo.op (n:=117) (v:=.int 3 kk) (H':=B) (by simp[a1,aH,gv,aQ,az.aG,bE]) (Xo.op (n:=116) (v:=.aD q (u+1)) (H':=B) (by simp[h7,aH,gv,aQ,az.aG,bE]) (Xo.op (n:=115) (v:=D) (H':=B) (iq (by rfl) (cc c7 ay)) (Xo.op (n:=114) (v:=.int 3 bq) (H':=B) (J _ _ _ (by rfl)) (Xo.call (n:=113) ?_)))));simp only[gv,aQ,az.aG,bE,ahk,aiz];refine Xf.mono (n:=80) aC ?_ p;intro v E p;refine Xo.mono (n:=101) aC (λ_ _ h=>h) (Xo.nil (n:=100) (p _ ?_ ?_));·intro t s;simp only[JI,ac2,ahv,or_false,not_or]at s;simp[s,aQ,az.aG]
  rfl
 simp
theorem afe(A:O≠V)(p:lI F (nU O V)):uu F 1005 (EB O):=by
 intro Wr ρ H H' w nt fr c1 c2 x y Y b a B C q hg hF R k cs;have q:bw.seq Js Jt=bw.seq x y:=q;injection q with hx hy;subst hx;subst hy;unfold EB at hg;obtain⟨f,a1,a2,a3,S,no,s5,kt,t,ag,pm,Z,kb,bb,bq,m,N,c,n,e,fz,ks,av,pl,t0,nw,hf,v1,v2,v3,v4,v5,v6,v7,T,v9,D,E,n2,n3,n4,n5,W,w2,w3,X,w5,rfl,rfl⟩:=JK hg;subst hf;have⟨G,I,r,J⟩:=sY v1;have⟨i5,o5,e5,aw,c5⟩:=uE v2;have⟨ax,eD,l,s,_⟩:=uE v4;rw[r]at l;injection l with q1 q2;subst q1;subst q2;have⟨is,os,ns,ay,a6,js,e6,e7,e8,a8,c6⟩:=EK v9;have⟨ms,L⟩:=BA W;have⟨Ns,M⟩:=zF X;have P:fr=⟨fr.af,fr.bA,fr.bx⟩:=rfl;simp only[aa9]at T;subst T;refine(JH A p B C (co:=zA) aC bt bt bt bt bt bt bt bt bt bt bt bt hF R (bq:=.ofNat 0) v5 v6 v7 w3 w2 D E n4 n5 w5 W X n2 n3 20 120 ?_ ?_ k cs).mono ?_
 .intro g d;rw[P];refine Xc.region (n:=19) (Xo.op (n:=18) (v:=s5) (H':=H.set m (.map g d)) (iq e5 (by grind[xl,jR])) (Xo.op (n:=17) (v:=.int kt t) (H':=H.set m (.map g d)) (by simp[v3,aH,gv,aQ,az.aG,bE]) ?_));refine Xo.op (n:=16) (v:=.aD is (os+js)) (H':=H.set m (.map g d)) (sZ (by trivial) (by simp[gv,aQ,az.aG,bE];trivial) e8) ?_;refine Xo.op (n:=15) (v:=.map m) (H':=H.set m (.map g d)) (iq (by rfl) (by grind[xl,jR])) ?_;refine Xo.op (n:=14) (v:=.aD H.next 0) (H':=(H.set m (.map g d)).new (.mapIter (some m) d [] d)) (by simp[aH,gv,aQ,az.aG,bE,ai.aG];rfl) (Xo.nil (n:=13) ?_);refine⟨rfl,rfl,rfl,?_,?_,rfl⟩;·intro t p;simp only[JJ,ac2,ahv,or_false,not_or]at p;simp[p,aQ,az.aG]
  rfl
 .intro af z kk K u he Q j;have cc:∀{i o v},aY H i o=some v->i≠S->aY z i o=some v:=λh hq=>by rw[mX (u _ (jR h M) (jR h L) (uC R h) hq)];exact h
  have a':af.get .ai8 (sl 11)=.aD G I:=by rw[he _ bt];exact r
  refine Xc.region (n:=119) (Xo.op (n:=118) (v:=.func f [] [a1,a2,a3,.aD S no]) (H':=z) (iq (by trivial) (cc J s)) (Xo.op (n:=117) (v:=.int 3 kk) (H':=z) (by simp[Q,aH,gv,aQ,az.aG,bE]) (Xo.call (n:=116) ?_)));simp only[gv,aQ,az.aG,bE,ahk,aiz];refine Xf.mono (n:=80) aC ?_ j;intro v H2 j;refine Xo.mono (n:=101) aC (λ_ _ h=>h) (Xo.nil (n:=100) (j _ ?_ ?_));·intro t p;simp only[JJ,ac2,ahv,or_false,not_or]at p;simp[p,aQ,az.aG]
  rfl
 simp
section
variable[Ov]
def bR.pB(o:bR):Prop:=o.jO=false/\o.aK=[]/\o≠.none
theorem bm.sO(h:bm F W S B M){hl dd:ah->Prop}(q:∀i,hl i->(B.get i).pB)(hd:∀i,dd i->B.get i=.none/\S i=none/\i.ap<B.next.ap/\∀j,i∉(B.get j).aK)(l:H'.next=B.next)(hg:∀j,H'.get j=B.get j\/H'.get j=.none)(r:∀i,hl i->H'.get i=.none):bm F (W.i9 S hl dd) S H' M:=by
 have hs:=h.sub l hg;have n:∀j,H'.get j≠.none->H'.get j=B.get j:=λj hj=>(hg j).resolve_right hj;have s:=Ef hg;have sO:∀j b x,H'.get j≠.none->S j=some (b,x)->∀i y,hl i->S i≠some (b,y):=by
  intro j b x hj u i y hi v;have⟨m,t,f⟩:=q i hi;have o:i≠j:=λe=>hj (e▸r i hi);have p:B.get j≠.none:=by rw[<-n j hj];exact hj
  rcases h.jC i j b y x o f p v u with⟨g,_⟩|⟨g,_⟩;·have:=(h.aK i j g).2 f;rw[m]at this;cases this
  rw[t]at g;cases g
 constructor;·exact hs.dq
 .exact hs.jC
 .exact hs.aK
 .intro i b x hi z e;exact⟨hs.wr i b x hi z e,λk y d=>sO i b x hi e k y d⟩
 .exact hs.du
 .intro k d;have c:∀i x,hl i->S i≠some (k,x):=λi x _ e=>by have:=h.ef i k x e;omega
  exact⟨⟨(h.new k d).1,c⟩,⟨(h.new k d).2,c⟩⟩
 .exact hs.kR
 .exact hs.iK
 .exact hs.ef
 .intro i b x hi e;exact⟨hs.rd i b x hi e,λk y d=>sO i b x hi e k y d⟩
 .intro i hi;rcases hi with hi|hi|hi;·exact hs.un i hi
  .have⟨m,t,f⟩:=q i hi;refine⟨r i hi,by rw[l];exact h.A0 f,λj hj=>?_⟩;have:=(h.aK i j (s i j hj)).2 f;rw[m]at this;cases this
  have⟨h0,h1,h2,h3⟩:=hd i hi;exact⟨by rcases hg i with e|e<;>rw[e];exact h0,by rw[l];exact h2,λj hj=>h3 j (s i j hj)⟩
 intro i hi;rcases hi with hi|hi;·exact⟨.inl (hs.dJ i hi).1,(hs.dJ i hi).2⟩
 exact⟨.inr (.inr hi),(hd i hi).2.1⟩
theorem bm.EL(h:bm F W S H' w'){hl dd:ah->Prop}(C:∀i,hl i->(H'.get i).pB)(o:b9 S b)(g:bm F (W.i9 S hl dd) b B M)(p:dk (W.i9 S hl dd) w' M)(O:H2.next=B.next)(h1:∀i,hl i->H2.get i=H'.get i)(h2:∀i,¬hl i->H2.get i=B.get i):bm F W b H2 M/\dk W w' M:=by
 have d:∀i,hl i->∃V x q,S i=some (V,x)/\b i=some (V,x)/\b.k V=S.k V/\w'.heap[V]?=some q/\M.heap[V]?=some q/\OR F S (H'.get i) x q:=by intro i hi;have⟨V,x,q,e,G,hb,Q⟩:=h.aE ((C i hi)).2.2;exact⟨V,x,q,e,(o _ _ e).1,(o _ _ e).2,hb,by rw[p.block V G λD=>D.2 i x hi e];exact hb,Q⟩
 have z:∀i j,i∈(H2.get j).aK->¬hl i/\¬hl j/\i∈(B.get j).aK:=by
  intro i j hj;by_cases f:hl j;·rw[h1 j f,(C j f).2.1]at hj;cases hj
  rw[h2 j f]at hj;exact⟨λhi=>(g.un i (.inr (.inl hi))).2.2 j hj,f,hj⟩
 refine⟨⟨?_,?_,?_,?_,?_,?_,?_,?_,?_,?_,?_,?_⟩,⟨p.os,p.tape,p.output,p.size,λX h1 D=>p.block X h1 λI=>D I.1⟩⟩
 .intro i hi;by_cases c:hl i;·grind[OR.mono]
  rw[h2 i c]at hi⊢;exact g.dq i hi
 .intro i j V x y u hi hj s m;by_cases c:hl i
  .have⟨b1,E,_,l,n,_⟩:=d i c;rw[n]at s;injection s with s;injection s with J K;subst J;subst K;by_cases f:hl j;·have⟨b2,R,_,c1,c2,_⟩:=d j f;rw[c2]at m;injection m with m;injection m with r v;subst r;subst v;rw[h1 i c]at hi⊢;rw[h1 j f]at hj⊢;exact h.jC i j _ _ _ u hi hj l c1
   rw[h2 j f]at hj;exact absurd l ((g.rd j _ y hj m).2 i _ c)
  by_cases f:hl j;·have⟨b2,R,_,c1,c2,_⟩:=d j f;rw[c2]at m;injection m with m;injection m with r v;subst r;rw[h2 i c]at hi;exact absurd c1 ((g.rd i _ x hi s).2 j _ f)
  rw[h2 i c]at hi⊢;rw[h2 j f]at hj⊢;exact g.jC i j V x y u hi hj s m
 .intro i j hj;have⟨l,n,a3⟩:=z i j hj;have⟨b1,b2⟩:=g.aK i j a3;grind
 .intro i V x hi A e;by_cases c:hl i;·have⟨b1,E,_,l,n,_⟩:=d i c;rw[n]at e;injection e with e;injection e with t N;subst t;rw[h1 i c]at hi A;exact h.wr i _ _ hi A l
  rw[h2 i c]at hi A;exact(g.wr i V x hi A e).1
 .intro i hi;rw[O]at hi;have⟨l,n⟩:=g.du i hi;grind
 .intro X L;exact h.new X (aiw p.size L)
 .exact g.kR
 .intro i V x q hi e hb;by_cases c:hl i;·have⟨b1,E,T,l,n,a3,a4,a5,_⟩:=d i c;rw[n]at e;injection e with e;injection e with t N;subst t;rw[a5]at hb;injection hb with hb;subst hb;rw[h1 i c]at hi⊢;rw[a3];exact h.iK i _ _ _ hi l a4
  rw[h2 i c]at hi⊢;exact g.iK i V x q hi e hb
 .exact g.ef
 .intro i V x hi e;by_cases c:hl i;·have⟨b1,E,_,l,n,_⟩:=d i c;rw[n]at e;injection e with e;injection e with t N;subst t;rw[h1 i c]at hi;exact h.rd i _ _ hi l
  rw[h2 i c]at hi;exact(g.rd i V x hi e).1
 .intro i hi;have⟨l,n,a3⟩:=g.un i (.inl hi);have c:¬hl i:=λc=>(C i c).2.2 (h.un i hi).1;grind
 intro i hi;exact⟨(h.dJ i hi).1,(g.dJ i (.inl hi)).2⟩
theorem OR.JL(h:b9 S b){c:Bool}{d e:Obj}(f:OR F S (.cells A n O c J V) z d)(k:OR F b (.cells A n O c J V) u e):OR F S (.cells A n O c J V) u e:=by cases d<;>simp only[OR]at f;cases e<;>simp only[OR]at k⊢;refine⟨k.1,k.2.1,λi hi=>?_,k.2.2.2⟩;grind[VR.eS]
theorem cZ.set:∀{l:List Int}{m:List MapEntry},cZ S (dt l) m->cZ b (dt l) m
 |[],[],_=>by trivial
 |k::l,c::m,h=>by
  refine⟨?_,?_,cZ.set (l:=l) h.2.2⟩;·have:=h.1;cases d:c.key<;>rw[d]at this<;>simp only[VR]at this⊢;exact this
  have:=h.2.1;cases d:c.val<;>rw[d]at this<;>simp only[VR]at this⊢;exact this
 |[],_::_,h=>by trivial
 |_::_,[],h=>by trivial
theorem OR.uA{o:bR}(hs:fx o ks)(j:ks.Perm ks2){f:Obj}(h:OR F S o n f):OR F b (.cK (dt ks2)) n f:=by
 have⟨_,es,he,g⟩:=hs;have e:(dt ks).Perm (dt ks2):=j.map _;have d:es.map aV.kv=(dt ks).map aV.kv:=by rw[g,EC]
 cases o with|map i c=>simp only[dC,aa9]at he;subst he;cases f<;>simp only[OR]at h⊢;obtain⟨rfl,rfl,eB,h3⟩:=h;have⟨l,p1,p2⟩:=cZ.Bg e (cZ.kv d (ct.open h3));exact⟨rfl,eB,l,p1,cZ.set p2⟩|cK i=>simp only[dC,aa9]at he;subst he;cases f<;>simp only[OR]at h⊢;have⟨h1,h2,l,h3,k⟩:=h;have⟨m,p1,p2⟩:=cZ.Bg e (cZ.kv d k);exact⟨h1,h2,m,p1.trans h3,cZ.set p2⟩|_=>simp[dC]at he
theorem bm.EM(h0:bm F W b B w')(N:b9 b S)(h1:bm F W S H' M)(nx:B.next.ap<=H2.next.ap)(l:ah->ah)(new:ah->Prop) [DecidablePred new](c:aP)(A:c=⟨λj=>if j.ap<B.next.ap then b j else if new j then S (l j)else none,S.k⟩)(s:∀j,B.next.ap<=j.ap->H2.get j≠.none->new j)(z:∀j,new j->B.next.ap<=j.ap/\j.ap<H2.next.ap/\B.next.ap<=(l j).ap/\H'.get (l j)≠.none/\(H'.get (l j)).aK=[]/\(H'.get (l j)).jO=false/\(H2.get j).aK=[]/\(H2.get j).jO=false/\(H'.get (l j)).len=(H2.get j).len/\(∀x d,OR F S (H'.get (l j)) x d->OR F c (H2.get j) x d)/\∀q d,eQ F q (H'.get (l j)) d->eQ F q (H2.get j) d)(inj:∀i j,new i->new j->l i=l j->i=j)(cI:∀j,j.ap<B.next.ap->H2.get j≠.none->B.get j≠.none/\H'.get j≠.none/\(H'.get j).aK=(B.get j).aK/\(H2.get j).aK=(B.get j).aK/\(H'.get j).jO=(H2.get j).jO/\(H'.get j).len=(H2.get j).len/\(∀x d,OR F S (H'.get j) x d->OR F c (H2.get j) x d)/\∀q d,eQ F q (H'.get j) d->eQ F q (H2.get j) d):b9 b c/\bm F W c H2 M:=by
 have ro:∀j,j.ap<B.next.ap->c j=b j:=λj hj=>by rw[A];exact aF hj
 have rn:∀j,new j->c j=S (l j):=λj hj=>by rw[A];show(if _ then _ else _)=_;rw[an (by have:=(z j hj).1;omega),aF hj]
 have rk:c.k=S.k:=by rw[A]
 have rz:∀j,B.next.ap<=j.ap->¬new j->c j=none:=λj h hj=>by rw[A];show(if _ then _ else _)=_;rw[an aa,an hj]
 have I:∀j x,b j=some x->j.ap<B.next.ap:=λj x e=>by
  rcases aic j.ap B.next.ap with h|h;·exact h
  rw[(h0.du j h).2]at e;cases e
 have K:b9 b c:=λj x e=>⟨by rw[ro j (I j x e)];exact e,by rw[rk];exact(N j x e).2⟩;have o:∀j,H2.get j≠.none->∃t,H'.get t≠.none/\c j=S t/\(H'.get t).jO=(H2.get j).jO/\(H'.get t).len=(H2.get j).len/\(∀x d,OR F S (H'.get t) x d->OR F c (H2.get j) x d)/\(∀q d,eQ F q (H'.get t) d->eQ F q (H2.get j) d)/\((j.ap<B.next.ap/\t=j)\/(new j/\t=l j)):=by
  intro j hj;rcases aic j.ap B.next.ap with hl|hl;·have⟨v,r,a3,a4,a5,O,a7,Q⟩:=cI j hl hj;refine⟨j,r,?_,a5,O,a7,Q,.inl ⟨hl,rfl⟩⟩;have⟨ax,x,d,e,_⟩:=h0.dq j v;rw[ro j hl,e,(N _ _ e).1]
  have m:=s j hl hj;have⟨v,r,a3,a4,a5,O,a7,Q,a9,V,X⟩:=z j m;exact⟨l j,a4,rn j m,O.trans Q.symm,a9,V,X,.inr ⟨m,rfl⟩⟩
 have n:∀i j,i∈(H2.get j).aK->j.ap<B.next.ap/\i∈(B.get j).aK/\H2.get j≠.none:=by
  intro i j hi;have hj:H2.get j≠.none:=λe=>by rw[e]at hi;cases hi
  rcases aic j.ap B.next.ap with hl|hl;·have⟨v,r,a3,a4,_⟩:=cI j hl hj;exact⟨hl,by rw[<-a4];exact hi,hj⟩
  have m:=s j hl hj;rw[(z j m).2.2.2.2.2.2.1]at hi;cases hi
 have f:∀i j L G,H2.get i≠.none->H2.get j≠.none->((i.ap<B.next.ap/\L=i)\/(new i/\L=l i))->((j.ap<B.next.ap/\G=j)\/(new j/\G=l j))->L∈(H'.get G).aK->i∈(H2.get j).aK:=by
  intro i j L G hi hj Y Z p;rcases Z with⟨hl,rfl⟩|⟨m,rfl⟩
  .have⟨v,r,a3,a4,_⟩:=cI G hl hj;rw[a3]at p;rcases Y with⟨ag,rfl⟩|⟨C,rfl⟩;·rw[a4];exact p
   have:=(h0.aK _ _ p).1;have:=(z i C).2.2.1;omega
  rw[(z j m).2.2.2.2.1]at p;cases p
 refine⟨K,⟨?_,?_,?_,?_,?_,?_,?_,?_,?_,?_,?_,?_⟩⟩;·intro i hi;have⟨t,t1,t2,_,_,t5,_⟩:=o i hi;have⟨ax,x,d,e,hb,hr⟩:=h1.dq t t1;exact⟨ax,x,d,by rw[t2];exact e,hb,t5 x d hr⟩
 .intro i j ax x y J hi hj ei ej;have⟨t,t1,t2,_,t4,_,_,R⟩:=o i hi;have⟨u,u1,u2,_,u4,_,_,T⟩:=o j hj;have av:t≠u:=by
   rcases R with⟨hl,rfl⟩|⟨m,rfl⟩<;>rcases T with⟨ag,rfl⟩|⟨C,rfl⟩;·exact J
   .rintro rfl;have:=(z j C).2.2.1;omega
   .rintro rfl;have:=(z i m).2.2.1;omega
   exact λe=>J (inj i j m C e)
  rw[<-t4,<-u4];rcases h1.jC t u ax x y av t1 u1 (by rw[<-t2];exact ei) (by rw[<-u2];exact ej)with⟨p,D⟩|⟨p,D⟩;·exact .inl ⟨f i j t u hi hj R T p,D⟩
  exact .inr ⟨f j i u t hj hi T R p,D⟩
 .intro i j hi;have⟨hl,p,hj⟩:=n i j hi;have hp:=h0.aK i j p;refine⟨ahC hp.1 nx,λaw=>?_⟩;have⟨v,r,a3,a4,a5,_⟩:=cI i hp.1 aw;have⟨b1,b2,b3,_⟩:=cI j hl hj;rw[<-a5];exact(h1.aK i j (by rw[b3];exact p)).2 r
 .intro i ax x hi hf e;have⟨t,t1,t2,t3,_⟩:=o i hi;exact h1.wr t ax x t1 (by rw[t3];exact hf) (by rw[<-t2];exact e)
 .intro i hi;have hg:H2.get i=.none:=by apply ahF;intro E;have:=(z i (s i (aiw nx hi) E)).2.1;omega
  refine⟨hg,rz i (aiw nx hi) λm=>?_⟩;have:=(z i m).2.1;omega
 .exact h1.new
 .intro g hg;have:=h0.kR g hg;rw[ro _ (I _ _ this)];exact this
 .intro i ax x d hi e hb;have⟨t,t1,t2,_,_,_,t6,_⟩:=o i hi;rw[rk];exact t6 _ _ (h1.iK t ax x d t1 (by rw[<-t2];exact e) hb)
 .intro i ax x e;rcases aic i.ap B.next.ap with hl|hl;·rw[ro i hl]at e;exact h1.ef i ax x (N _ _ e).1
  by_cases m:new i;·rw[rn i m]at e;exact h1.ef _ ax x e
  rw[rz i hl m]at e;cases e
 .intro i ax x hi e;have⟨t,t1,t2,_⟩:=o i hi;exact h1.rd t ax x t1 (by rw[<-t2];exact e)
 .intro i hi;have⟨v,r,a3⟩:=h0.un i hi;refine⟨?_,ahC r nx,λj hj=>a3 j (n i j hj).2.1⟩;apply ahF;intro E;exact(cI i r E).1 v
 intro i hi;have⟨v,r⟩:=h0.dJ i hi;exact⟨v,by rw[ro i (h0.un i v).2.1];exact r⟩
end
section
theorem EN(p:ah):∀l,xg p l=true↔p∈l|[]=>by simp[xg]|q::l=>by simp only[xg,aij,EN p l,ah.ft,ac2]
theorem EO:∀l,Bz l=true↔l.Nodup|[]=>by trivial|p::l=>by simp only[Bz,ahl,EO l,ahT,ah3,<-EN];simp
theorem s9:∀{l:List Int},N∈jD A n l↔∃k∈l,A.br .ai8 (n+k.toNat)=.map N
 |[]=>by simp[jD]
 |k::l=>by
  simp only[jD];split
  .rename_i b h;rw[ac2,s9];constructor
   .rintro(e|⟨a,h1,h2⟩);·exact⟨k,acj ..,e▸h⟩
    exact⟨a,ab8 _ h1,h2⟩
   rintro⟨a,h1,h2⟩;rcases ac2.1 h1 with e|e;·subst e;rw[h]at h2;injection h2 with h2;exact .inl h2.symm
   exact .inr ⟨a,e,h2⟩
  rename_i h;rw[s9];constructor;·rintro⟨a,h1,h2⟩;exact⟨a,ab8 _ h1,h2⟩
  rintro⟨a,h1,h2⟩;rcases ac2.1 h1 with e|e;·subst e;exact absurd h2 (h N)
  exact⟨a,e,h2⟩
theorem JM:∀{l:List Int},(jD A n l).Nodup->∀{k b:Int}{N:ah},k∈l->b∈l->A.br .ai8 (n+k.toNat)=.map N->A.br .ai8 (n+b.toNat)=.map N->k=b
 |[],_,_,_,_,h,_,_,_=>by grind
 |a::l,c,k,b,N,h1,h2,g,i=>by
  have d:(jD A n l).Nodup:=by
   simp only[jD]at c;split at c;·exact(ahT.1 c).2
   exact c
  rcases ac2.1 h1 with e|e<;>rcases ac2.1 h2 with f|f;·omega
  .simp_all[jD,absurd,s9,ahT]
  .simp_all[jD,absurd,s9,ahT]
  exact JM d e f g i
theorem EP:∀{l:List Int}{Y:az AV}{H':ai}{L:az AV}{o:ai},sW A n O N E B l Y H'=some (L,o)->(∀av t,iC B av=some t->av.ap<H'.next.ap)->l.Nodup->(jD A n l).Nodup->(∀k∈l,∃j,k=.ofNat j/\j<O/\(A.br .ai8 (n+k.toNat)=.cP\/∃av t0,A.br .ai8 (n+k.toNat)=.map av/\av≠N/\iC B av=some t0/\o.get av=.cK (dt (eX (fV k E) t0))))/\H'.next.ap<=o.next.ap/\(∀j,j.ap<H'.next.ap->j∉jD A n l->o.get j=H'.get j)/\(∀j,o.next.ap<=j.ap->o.get j=H'.get j)/\(∀x,(∀k∈l,A.br .ai8 (n+k.toNat)=.cP->x≠n+k.toNat)->L.br .ai8 x=Y.br .ai8 x)/\∃nm:Int->ah,(∀k∈l,A.br .ai8 (n+k.toNat)=.cP->H'.next.ap<=(nm k).ap/\(nm k).ap<o.next.ap/\o.get (nm k)=.cK (dt (fV k E))/\L.br .ai8 (n+k.toNat)=.map (nm k))/\(∀k a,k∈l->a∈l->A.br .ai8 (n+k.toNat)=.cP->A.br .ai8 (n+a.toNat)=.cP->nm k=nm a->k=a)/\(∀j,H'.next.ap<=j.ap->j.ap<o.next.ap->∃k∈l,A.br .ai8 (n+k.toNat)=.cP/\nm k=j)
 |[],Y,H',L,o,h,_,_,_=>by obtain⟨rfl,rfl⟩:=h;exact⟨aC,aeE _,λ_ _ _=>rfl,λ_ _=>rfl,λ_ _=>rfl,λ_=>.xH,aC,aC,λj h1 h2=>by omega⟩
 |k::l,Y,H',L,o,h,z,u,g=>by
  rw[ahT]at u;simp only[sW]at h;split at h;case h_2=>cases h
  rename_i j;split at h;case isFalse=>cases h
  rename_i C;have C:j<O:=Eq.mp aib C;have d:(ah0 j).toNat=j:=rfl;split at h
  .rename_i f;have W:(jD A n l).Nodup:=by simp only[jD,d,f]at g;exact g
   have X:∀av t,iC B av=some t->av.ap<(H'.new (.cK (dt (fV (.ofNat j) E)))).next.ap:=λav t F=>by have:=z av t F;show _<H'.next.succ.ap;rw[ah.eP];omega
   have⟨M,Z,G,s4,s5,nm,H,s7,P⟩:=EP h X u.2 W;have K:(H'.new (.cK (dt (fV (.ofNat j) E)))).next.ap=H'.next.ap+1:=ah.eP _;rw[K]at Z G H P;have D:∀a∈l,A.br .ai8 (n+a.toNat)=.cP->n+j≠n+a.toNat:=by
    intro a b _ e;obtain⟨j2,rfl,_⟩:=M a b;have:j=j2:=by have:(ah0 j2).toNat=j2:=rfl;omega
    subst this;exact u.1 b
   have hc:L.br .ai8 (n+j)=.map H'.next:=by rw[s5 _ D,lg];simp
   have hg:o.get H'.next=.cK (dt (fV (.ofNat j) E)):=by
    rw[G H'.next aa,ai.cL,aF rfl];rw[s9];rintro⟨a,h1,h2⟩;obtain⟨j2,_,_,h3|⟨av,t0,h3,_,h4,_⟩⟩:=M a h1;·rw[h3]at h2;cases h2
    rw[h3]at h2;injection h2 with h2;subst h2;have:=z _ _ h4;omega
   have i:∀a∈l,a≠.ofNat j:=λa h e=>u.1 (e▸h);refine⟨?_,aa,?_,?_,?_,λx=>if x=.ofNat j then H'.next else nm x,?_,?_,?_⟩
   .intro k r;rcases ac2.1 r with e|e;·subst e;exact⟨j,rfl,C,.inl f⟩
    exact M k e
   .intro p y v;rw[G p aa (λq=>v (by simp only[jD,d,f];exact q)),ai.cL,an (λe=>by rw[e]at y;omega)]
   .intro p y;rw[s4 p y,ai.cL,an (λe=>by rw[e]at y;omega)]
   .intro x hx;rw[s5 x (λa b c=>hx a (ab8 _ b) c),lg];have:=hx (.ofNat j) (acj ..) f;rw[d]at this;rw[an (by simp;omega)]
   .intro k r w;rcases ac2.1 r with e|e;·subst e;simp only[bg];exact⟨aa,aa,hg,hc⟩
    simp only[an (i k e)];have⟨Q,R,S,q4⟩:=H k e w;exact⟨aa,R,S,q4⟩
   .intro k a r b m c he;rcases ac2.1 r with e|e<;>rcases ac2.1 b with s|s;·rw[e,s]
    .subst e;simp only[bg,an (i a s)]at he;have:=(H a s c).1;rw[<-he]at this;omega
    .subst s;simp only[bg,an (i k e)]at he;have:=(H k e m).1;rw[he]at this;omega
    simp only[an (i k e),an (i a s)]at he;exact s7 k a e s m c he
   intro p T I;by_cases e:p=H'.next;·exact⟨.ofNat j,acj ..,f,by simp[e]⟩
   have:p.ap≠H'.next.ap:=λq=>e (ah.rC q);have⟨a,Q,R,S⟩:=P p aa I;exact⟨a,ab8 _ Q,R,by simp only[an (i a Q)];exact S⟩
  .rename_i av F;split at h;case isTrue=>cases h
   rename_i J;have J:av≠N:=BE (by simpa using J);split at h;case h_2=>cases h
   rename_i t0 V;simp only[jD,d,F]at g;rw[ahT]at g;have ag:=z av t0 V;have⟨M,Z,G,s4,s5,nm,H,s7,P⟩:=EP h z u.2 g.2;rw[ai.eK]at Z G H P;refine⟨?_,Z,?_,?_,?_,nm,?_,?_,?_⟩
   .intro k r;rcases ac2.1 r with e|e;·subst e;refine⟨j,rfl,C,.inr ⟨av,t0,F,J,V,?_⟩⟩;rw[G av ag g.1,ai.aG,aF rfl]
    exact M k e
   .intro p y v;simp only[jD,d,F,ac2,not_or]at v;rw[G p y v.2,ai.aG,an v.1]
   .intro p y;rw[s4 p y,ai.aG,an (λe=>by rw[e]at y;omega)]
   .intro x hx;exact s5 x (λa b c=>hx a (ab8 _ b) c)
   .intro k r w;rcases ac2.1 r with e|e;·subst e;rw[d,F]at w;cases w
    exact H k e w
   .intro k a r b m c he;rcases ac2.1 r with e|e;·subst e;rw[d,F]at m;cases m
    rcases ac2.1 b with s|s;·subst s;rw[d,F]at c;cases c
    exact s7 k a e s m c he
   intro p T I;have⟨a,Q,R,S⟩:=P p T I;exact⟨a,ab8 _ Q,R,S⟩
  cases h
section
variable[Ov]
theorem Xc.eH{g:az AV->ai->Option (az AV×ai)}(a:c O=.eH g)(hg:g L.af B=some (A,H'))(h:C .none {L with af:=A} H'):Xc c (n+1) (.eH O) L B C:=by simp[a,hg,h,Xc,exec]
theorem Sg(h:fx (B.get N) ks):iC B N=some ks:=by
 have⟨c,es,he,b⟩:=h;have key:∀{es:List aV}{ks:List Int},es.map aV.kv=ks.map sk->rJ es=some ks:=by intro es;induction es with|nil=>intro ks h;cases ks<;>simp at h;rfl|cons a es d=>intro ks h;cases ks with|nil=>simp at h|cons k ks=>simp only[ahk,ahD,aV.kv,sk,afm]at h;simp only[rJ,h.1.1,h.1.2,d h.2]
 unfold iC;rw[he];simp only[key b,(ux ks).2 c,bg]
theorem JN(h:fx (B.get N) ks):iD B N=some ks:=by
 have⟨c,es,he,b⟩:=h;have key:∀{es:List aV}{ks:List Int},es.map aV.kv=ks.map sk->iB es=some ks:=by intro es;induction es with|nil=>intro ks h;cases ks<;>simp at h;rfl|cons a es d=>intro ks h;cases ks with|nil=>simp at h|cons k ks=>simp only[ahk,ahD,aV.kv,sk,afm]at h;simp only[iB,h.1.1,d h.2]
 unfold iD;rw[he];simp only[key b,(ux ks).2 c,bg]
theorem Sh{es:List aV}(i:E.Nodup)(h:es.map aV.kv=E.map sk)(g:(r.map aV.kv).Perm (es.map aV.kv))(a:Nat):∃b,fx (.map r a) b/\b.Perm E:=by
 let f:AV×AV->Int:=λp=>match p.1 with|.int _ k=>k|_=>0;have c:((r.map aV.kv).map f).Perm E:=by
  have:=g.map f;have e:(E.map sk).map f=E:=by
   rw[aiF];have:(f∘sk)=id:=by funext k;rfl
   rw[this,List.map_id]
  rw[h,e]at this;exact this
 refine⟨(r.map aV.kv).map f,⟨c.nodup_iff.2 i,r,rfl,?_⟩,c⟩;rw[aiF];have:∀p∈r.map aV.kv,(sk∘f) p=p:=by intro p d;have:=g.mem_iff.1 d;rw[h,ahm]at this;obtain⟨k,_,rfl⟩:=this;rfl
 simp_all
theorem ai.iy(H:ai)(c:∀j:ah,H.next.ap<=j.ap->H.get j=.none)(p:ah->Prop):∃a:ai,a.next=H.next/\∀j,(p j->a.get j=.none)/\(¬p j->a.get j=H.get j):=by
 classical
  refine⟨H.eI (((ahq H.next.ap).map ah.cV).filter λj=>decide (p j)),ai.iL _ _,λj=>?_⟩;rw[ai.uk];constructor
  .intro e;split;·rfl
   rename_i d;refine c j ?_;rcases aic j.ap H.next.ap with h|h;·exfalso;apply d;rw[aiR,ahm];have b:=ah.sE j;exact⟨⟨j.ap - 1,ahR.2 aa,ah.rC (by grind[ah.kQ])⟩,by grind⟩
   omega
  grind
end
end
section
def BF:Nat->aX:=λi=>if ahr i 1001 then .eH uy else .none
theorem Si:lI F BF:=by refine⟨?_,?_,?_⟩;all_goals grind[BF,Nat.eq_of_beq_eq_true,R7]
theorem Sj(j:A.get .ai8 (sl 4)=.map w)(k:A.get .ai8 (sl 5)=.int 3 v)(h3:A.get .ai8 (sl 3)=.aD B1 n)(r:aY B B1 n=some Y)(he:kg B Y v=some (.map N))(i:w≠N)(s:iD B w=some E)(t:iC B N=some ks):uy A B=some (jn A rM,(B.set N (.cK (dt (eX (fV v E) ks)))).skip):=by simp_all[ah.beq,absurd,ah.ft,uy,l9,abH,bF]
theorem bW(k:N.ap≠w.ap):N≠w:=λe=>k (congrArg ah.ap e)
structure nV(Hs:ai)(m i:ah)(c:az AV)(o cn e fz:Nat)(ks:List Int)(t0:ah->List Int)(olds:List ah)(esx:List aV)(clock:Nat)(l:List Int)(H1:ai)(c':az AV)(nr:Int->ah):Prop where
 nx:Hs.next.ap<H1.next.ap
 ma:∀j,j.ap<Hs.next.ap->j≠m->j≠i->j∉olds->H1.get j=Hs.get j
 mm:H1.get m=.map esx clock
 ii:H1.get i=.cells c' cn e true [] fz
 new:∀k∈l,c.br .ai8 (o+k.toNat)=.cP->Hs.next.ap<(nr k).ap/\(nr k).ap<H1.next.ap/\c'.br .ai8 (o+k.toNat)=.map (nr k)/\∃ks',fx (H1.get (nr k)) ks'/\∀x,x∈ks'↔x∈ks/\x≠k
 inj:∀k k2,k∈l->k2∈l->c.br .ai8 (o+k.toNat)=.cP->c.br .ai8 (o+k2.toNat)=.cP->nr k=nr k2->k=k2
 cc:∀x,(∀k∈l,c.br .ai8 (o+k.toNat)=.cP->x≠o+k.toNat)->c'.br .ai8 x=c.br .ai8 x
 cI:∀k∈ks,∀N,c.br .ai8 (o+k.toNat)=.map N->∃ks',fx (H1.get N) ks'/\∀x,x∈ks'↔x∈t0 N\/(k∈l/\x∈ks/\x≠k)
 only:∀j,Hs.next.ap<j.ap->H1.get j≠.none->∃k∈l,c.br .ai8 (o+k.toNat)=.cP/\nr k=j
 sub:∀k∈l,k∈ks
theorem nV.set{f:Int->ah}(L:nV B N w A n O V u E y J r z l H q f)(v:bR)(K:N.ap<B.next.ap)(hi:w.ap<B.next.ap)(eg:∀k∈E,∀M,A.br .ai8 (n+k.toNat)=.map M->M.ap<B.next.ap):nV B N w A n O V u E y J r z l (H.set B.next v) q f:=by
 refine⟨L.nx,λj h1 h2 h3 x=>?_,?_,?_,λk s C=>?_,L.inj,L.cc,λk s M t=>?_,λj hj hg=>?_,L.sub⟩;·rw[ai.aG,an (bW aa)];exact L.ma j h1 h2 h3 x
 .rw[ai.aG,an (bW aa)];exact L.mm
 .rw[ai.aG,an (bW aa)];exact L.ii
 .have⟨D,F,G,I⟩:=L.new k s C;refine⟨D,F,G,?_⟩;rw[ai.aG,an (bW aa)];exact I
 .have:=eg k s M t;rw[ai.aG,an (bW aa)];exact L.cI k s M t
 rw[ai.aG,an (bW aa)]at hg;exact L.only j hj hg
section
variable{f:Int->ah}
theorem Sk(fk:∀v∈E,∃j,v=.ofNat j/\j<nt/\(A.br .ai8 (O+v.toNat)=.cP\/∃a8,A.br .ai8 (O+v.toNat)=.map a8/\a8≠N/\a8≠w/\a8.ap<H.next.ap/\a8∈J))(fo:∀v k a8,v∈E->k∈E->A.br .ai8 (O+v.toNat)=.map a8->A.br .ai8 (O+k.toNat)=.map a8->v=k)(hm:N.ap<H.next.ap)(hi:w.ap<H.next.ap)(a':nV H N w A O V u z E y J r e1 ks2 B q f)(hx:∀x,x∈pks↔x∈E)(hk:v∈E)(hA:¬(A.br .ai8 (O+v.toNat)=.cP/\v∉ks2)):∃a8 tN,q.br .ai8 (O+v.toNat)=.map a8/\N≠a8/\a8≠w/\a8≠H.next/\fx (B.get a8) tN/\nV H N w A O V u z E y J r e1 (ks2++[v]) ((B.set a8 (.cK (dt (eX (fV v pks) tN)))).skip) q f:=by
 have Q:∀tN x,x∈eX (fV v pks) tN↔(x∈E/\x≠v)\/x∈tN:=λtN x=>by rw[lL,rO,hx]
 have t:∀(a8 j:ah)(R:bR),((B.set a8 R).skip).get j=if j=a8 then R else B.get j:=λa8 j R=>ai.aG B a8 j R;have L:∀(a8:ah)(R:bR),((B.set a8 R).skip).next.ap=B.next.ap+1:=λa8 R=>ah.eP _;have⟨j,a2,hj,T⟩:=fk v hk;by_cases F:A.br .ai8 (O+v.toNat)=.cP
 .have M:v∈ks2:=ahF λa6=>hA ⟨F,a6⟩;have⟨q1,q2,q3,tN,q4,q5⟩:=a'.new v M F;have D:∀k,k∈ks2++[v]↔k∈ks2:=λk=>by simp only[ac6,abt];exact⟨λa6=>a6.elim id λa6=>a6▸M,.inl⟩
  refine⟨f v,tN,q3,bW aa,bW aa,bW aa,q4,?_⟩;refine⟨by rw[L];have:=a'.nx;omega,λba h1 h2 h3 h4=>?_,?_,?_,λk s G=>?_,λbb bc ha hb=>a'.inj bb bc ((D bb).1 ha) ((D bc).1 hb),λx S=>a'.cc x λk s=>S k ((D k).2 s),λk s N2 C=>?_,λba hp hg=>?_,λk s=>a'.sub k ((D k).1 s)⟩;·rw[t,an (bW aa)];exact a'.ma ba h1 h2 h3 h4
  .rw[t,an (bW aa)];exact a'.mm
  .rw[t,an (bW aa)];exact a'.ii
  .rw[D]at s;have⟨P,W,r3,I,r4,r5⟩:=a'.new k s G;refine⟨P,by rw[L];omega,r3,?_⟩;rw[t];by_cases he:k=v;·subst he;rw[aF rfl];exact⟨_,sX (nR _ q4.1),λx=>by rw[Q,q5];simp⟩
   rw[an λa6=>he (a'.inj k v s M G F a6)];exact⟨I,r4,r5⟩
  .have⟨I,P,W⟩:=a'.cI k s N2 C;obtain⟨_,_,_,X|⟨N',X,_,_,ax,_⟩⟩:=fk k s;·rw[X]at C;cases C
   rw[X]at C;injection C with C;subst C;rw[t,an (bW aa)];exact⟨I,P,λx=>by rw[W,D]⟩
  rw[t]at hg;split at hg;·rename_i he;exact⟨v,(D v).2 M,F,he.symm⟩
  obtain⟨k,P,W⟩:=a'.only ba hp hg;exact⟨k,(D k).2 P,W⟩
 have⟨a8,hN,Z,ag,ax,ay⟩:=T.resolve_left F;have⟨tN,P,W⟩:=a'.cI v hk a8 hN;have a1:q.br .ai8 (O+v.toNat)=.map a8:=by
  rw[a'.cc _ λk s G he=>?_];·exact hN
  rw[<-he]at G;exact F G
 have K:∀k,k∈ks2++[v]->A.br .ai8 (O+k.toNat)=.cP->k∈ks2:=λk a6 X=>by
  rcases ac6.1 a6 with a6|a6;·exact a6
  rw[abt]at a6;subst a6;exact absurd X F
 refine⟨a8,tN,a1,aiZ Z,ag,bW aa,P,?_⟩;refine⟨by rw[L];have:=a'.nx;omega,λba h1 h2 h3 h4=>?_,?_,?_,λk s G=>?_,λbb bc ha hb av aw=>a'.inj bb bc (K bb ha av) (K bc hb aw) av aw,λx S=>a'.cc x λk s=>S k (ahj _ s),λk s N2 C=>?_,λba hp hg=>?_,λk s=>?_⟩;·rw[t,an (λa6:ba=a8=>h4 (a6▸ay))];exact a'.ma ba h1 h2 h3 h4
 .rw[t,an (aiZ Z)];exact a'.mm
 .rw[t,an (aiZ ag)];exact a'.ii
 .have⟨Y,s2,s3,s4⟩:=a'.new k (K k s G) G;refine⟨Y,by rw[L];omega,s3,?_⟩;rw[t,an (bW aa)];exact s4
 .rw[t];by_cases he:k=v
  .subst he;rw[hN]at C;injection C with C;subst C;rw[aF rfl];refine⟨_,sX (nR _ P.1),λx=>?_⟩;rw[Q,W];simp only[ac6,abt,or_true,true_and];constructor
   .rintro(a6|a6|a6);·exact .inr a6
    .exact .inl a6
    exact .inr a6.2
   rintro(a6|a6);·exact .inr (.inl a6)
   exact .inl a6
  rw[an λa6:N2=a8=>he (fo k v a8 s hk (a6▸C) hN)];have⟨I,Y,s2⟩:=a'.cI k s N2 C;exact⟨I,Y,λx=>by rw[s2,ac6,abt];simp[he]⟩
 .rw[t]at hg;rw[an (bW aa)]at hg;obtain⟨k,Y,s2⟩:=a'.only ba hp hg;exact⟨k,ahj _ Y,s2⟩
 rcases ac6.1 s with a6|a6;·exact a'.sub k a6
 rw[abt]at a6;rw[a6];exact hk
theorem Sn(Y:∀v∈E,∃j,v=.ofNat j/\j<nt/\(q.br .ai8 (O+v.toNat)=.cP\/∃a1,q.br .ai8 (O+v.toNat)=.map a1/\a1≠w/\a1≠N/\a1.ap<H.next.ap/\a1∈J))(hm:w.ap<H.next.ap)(hi:N.ap<H.next.ap)(S:w≠N)(ay:nV H w N q O V u z E y J r e1 pks B A f)(hx:∀x,x∈ks2↔x∈E)(hk:v∈E)(F:q.br .ai8 (O+v.toNat)=.cP)(T:v∉pks):A.br .ai8 (O+v.toNat)=.cP/\nV H w N q O V u z E y J r e1 (pks++[v]) (((((B.new (.map [] 0)).set N (.cells (ez A (O+v.toNat) [.map B.next]) V u true [] z))).set B.next (.cK (dt (eX (fV v ks2) [])))).skip) (ez A (O+v.toNat) [.map B.next]) (λx=>if x=v then B.next else f x):=by
 have ag:∀x,x∈eX (fV v ks2) []↔(x∈E/\x≠v):=λx=>by rw[lL,rO,hx];simp
 have hJ:=ay.nx;have t:∀j:ah,((((B.new (.map [] 0)).set N (.cells (ez A (O+v.toNat) [.map B.next]) V u true [] z)).set B.next (.cK (dt (eX (fV v ks2) [])))).skip).get j=if j=B.next then .cK (dt (eX (fV v ks2) []))else if j=N then .cells (ez A (O+v.toNat) [.map B.next]) V u true [] z else B.get j:=by
  intro j;show(((B.new (.map [] 0)).set N _).set B.next _).get j=_;rw[ai.aG];split;·rfl
  rename_i ax;rw[ai.aG];split;·rfl
  rw[ai.cL,an ax]
 have av:((((B.new (.map [] 0)).set N (.cells (ez A (O+v.toNat) [.map B.next]) V u true [] z)).set B.next (.cK (dt (eX (fV v ks2) [])))).skip).next.ap=B.next.ap+2:=by show B.next.succ.succ.ap=_;rw[ah.eP,ah.eP]
 have P:∀s∈E,O+v.toNat=O+s.toNat->s=v:=by intro s k he;obtain⟨j,rfl,_⟩:=Y v hk;obtain⟨R,rfl,_⟩:=Y s k;have C:(ah0 j).toNat=j:=rfl;have D:(ah0 R).toNat=R:=rfl;rw[C,D]at he;have:R=j:=aa;rw[this]
 have W:A.br .ai8 (O+v.toNat)=.cP:=by rw[ay.cc _ λs k G he=>T (P s (ay.sub s k) he▸k)];exact F
 have hw:∀x,(ez A (O+v.toNat) [.map B.next]).br .ai8 x=if x=O+v.toNat then .map B.next else A.br .ai8 x:=by
  intro x;rw[lg];by_cases I:x=O+v.toNat;·subst I;simp
  rw[an (by simp;omega),an I]
 refine⟨W,aa,λa8 h1 h2 h3 h4=>?_,?_,?_,λs k G=>?_,λa2 a6 Z hb K L he=>?_,λx M=>?_,λs k N2 X=>?_,λa8 hp hg=>?_,λs k=>?_⟩;·rw[t,an (bW aa),an h3];exact ay.ma a8 h1 h2 h3 h4
 .rw[t,an (bW aa),an S];exact ay.mm
 .grind
 .by_cases he:s=v;·subst he;simp only[bg];refine⟨hJ,aa,by grind,?_⟩;rw[t,aF rfl];grind[sX,nR,List.nodup_nil]
  have Q:s∈pks:=by
   rcases ac6.1 k with ax|ax;·exact ax
   rw[abt]at ax;exact absurd ax he
  simp only[an he];have⟨s1,s2,s3,s4⟩:=ay.new s Q G;grind
 .have hl:∀x,x∈pks++[v]->x≠v->x∈pks:=λx ax h'=>by
   rcases ac6.1 ax with ax|ax;·exact ax
   rw[abt]at ax;exact absurd ax h'
  by_cases C:a2=v<;>by_cases D:a6=v;·rw[C,D]
  .simp only[aF C,an D]at he;have:=(ay.new a6 (hl a6 hb D) L).2.1;rw[<-he]at this;omega
  .simp only[aF D,an C]at he;have:=(ay.new a2 (hl a2 Z C) K).2.1;rw[he]at this;omega
  simp only[an C,an D]at he;exact ay.inj a2 a6 (hl a2 Z C) (hl a6 hb D) K L he
 .rw[hw,an (M v aC F)];exact ay.cc x λs k=>M s (ahj _ k)
 .have⟨aw,r1,r2⟩:=ay.cI s k N2 X;grind
 .rw[t]at hg;by_cases he:a8=B.next;·grind
  rw[an he,an (bW aa)]at hg;have⟨s,s1,s2,s3⟩:=ay.only a8 hp hg;grind
 rcases ac6.1 k with ax|ax;·exact ay.sub s ax
 grind
end
end
section
theorem xn{o:bR}(i:fx o E):o≠.none/\o.aK=[]/\o.jO=false/\o.len=0:=by have⟨_,es,i,_⟩:=i;cases o<;>simp[dC]at i<;>simp[bR.aK,bR.jO,bR.len]
theorem So(i:gv A a=.cP):aH (.eq false .map a (.c .cP)) A B=some (.bool true,B):=by simp only[aH,i,xk];rfl
theorem Sp(i:gv A a=.map N):aH (.eq false .map a (.c .cP)) A B=some (.bool false,B):=by simp only[aH,i,xk];rfl
section
variable{m:ah}{c:az AV}{e:Nat}{ex:Bool}{nr:Int->ah}
theorem Sq{k:Int}(fk:∀k∈E,∃j,k=.ofNat j/\j<n/\(c.br .ai8 (O+k.toNat)=.cP\/∃N,c.br .ai8 (O+k.toNat)=.map N/\N≠m/\N≠w/\N.ap<H.next.ap/\N∈J))(fo:∀k k2 N,k∈E->k2∈E->c.br .ai8 (O+k.toNat)=.map N->c.br .ai8 (O+k2.toNat)=.map N->k=k2)(hm:m.ap<H.next.ap)(hi:w.ap<H.next.ap)(T:m≠w)(h3:B1.ap<H.next.ap)(ag:B1≠m)(W:B1≠w)(av:B1∉J)(b0:u<=O)(b6:O+n<=V)(aw:aY H B1 nt=some (.slice w O n z ex))(hk:k∈E)(ax:fx (.map r e1) pks)(hx:∀x,x∈pks↔x∈E)(e3:A.get .ai8 (sl 3)=.aD B1 nt)(e4:A.get .ai8 (sl 4)=.map m)(Y:A.get .ai8 (sl 5)=.int 3 k)(b7:nV H m w c O V e u E y J r e1 ks2 B q nr):Xc BF 60 Jp ⟨A,s,Q⟩ B λj v S=>j=.none/\v.bA=s/\v.bx=Q/\(∀t,t∉nS->v.af.get .ai8 t=A.get .ai8 t)/\v.af.get .ai8 (sl 17)=A.get .ai8 (sl 17)/\S.get H.next=B.get H.next/\∃c2 D,nV H m w c O V e u E y J r e1 (ks2++[k]) S c2 D:=by
 have⟨j,L,hj,a'⟩:=fk k hk;have G:O+k.toNat=O+j:=by rw[L];rfl
 have hJ:=b7.nx;have F:aY B B1 nt=some (.slice w O n z ex):=by rw[mX (b7.ma B1 h3 ag W av)];exact aw
 have I:∀{C:ai}{K:az AV},C.get w=.cells K V e true [] u->aY C w (O+j)=some (K.br .ai8 (O+j)):=λb'=>by unfold aY;rw[b'];simp only[show ahO (O+j) V=true from ai5 aib aa,bg]
 have M:∀{C:ai}{K:az AV}{N:ah},C.get w=.cells K V e true [] u->K.br .ai8 (O+k.toNat)=.map N->kg C (.slice w O n z ex) k=some (.map N):=λb' h'=>by rw[L];simp only[kg,show ahO j n=true from ai5 aib hj,bg,I b'];rw[<-G,h']
 have aq:∀(ca:az AV)(C:ai)(N:ah)(tN:List Int)(K c2:az AV)(D:Int->ah),(∀t,t∉nS->ca.get .ai8 t=A.get .ai8 t)->ca.get .ai8 (sl 17)=A.get .ai8 (sl 17)->ca.get .ai8 (sl 5)=.int 3 k->aY C B1 nt=some (.slice w O n z ex)->C.get w=.cells K V e true [] u->K.br .ai8 (O+k.toNat)=.map N->m≠N->C.get m=.map r e1->fx (C.get N) tN->H.next≠N->C.get H.next=B.get H.next->nV H m w c O V e u E y J r e1 (ks2++[k]) ((C.set N (.cK (dt (eX (fV k pks) tN)))).skip) c2 D->Xc BF 10 (.eH 1001) ⟨ca,s,Q⟩ C λj v S=>j=.none/\v.bA=s/\v.bx=Q/\(∀t,t∉nS->v.af.get .ai8 t=A.get .ai8 t)/\v.af.get .ai8 (sl 17)=A.get .ai8 (sl 17)/\S.get H.next=B.get H.next/\∃c2 D,nV H m w c O V e u E y J r e1 (ks2++[k]) S c2 D:=by
  intro ca C N tN K c2 D a1 ba a3 a4 a5 bb a7 bc a9 ay a2 a6;have b3:ca.get .ai8 (sl 3)=.aD B1 nt:=(a1 _ bt).trans e3;have b4:ca.get .ai8 (sl 4)=.map m:=(a1 _ bt).trans e4;have a8:iD C m=some pks:=JN (by rw[bc];exact ax);have X:∀t,t∈rM->t∈nS:=bt;refine Xc.eH (n:=9) (g:=uy) rfl (Sj b4 a3 b3 a4 (M a5 bb) a7 a8 (Sg a9)) ⟨rfl,rfl,rfl,λt R=>?_,?_,?_,c2,D,a6⟩;·show(jn ca rM).get .ai8 t=_;rw[zD,an λb'=>R (X t b')];exact a1 t R
  .show(jn ca rM).get .ai8 (sl 17)=_;rw[zD,an bt];exact ba
  show(C.set N _).get H.next=_;rw[ai.aG,an ay];exact a2
 refine Xc.hZ (n:=50) (m:=10) (k:=59) aa aa (Xc.hZ (n:=48) (m:=48) (k:=49) aa aa (Xc.region (n:=47) ?_));refine Xo.op (n:=46) (v:=.slice w O n z ex) (H':=B) (iq (by simp[gv];exact e3) F) ?_;refine Xo.op (n:=45) (v:=.int 3 k) (H':=B) (by simp[aH,gv,aQ,az.aG,bE];exact Y) ?_;refine Xo.op (n:=44) (v:=.aD w (O+j)) (H':=B) (sZ (n:=n) (c:=z) (e:=ex) (j:=j) (k:=3) (by simp[gv,aQ,az.aG,bE]) (by simp[gv,aQ,az.aG,bE];exact L) hj) ?_;refine Xo.op (n:=43) (v:=q.br .ai8 (O+j)) (H':=B) (iq (by simp[gv,aQ,az.aG,bE]) (I b7.ii)) ?_;by_cases hA:c.br .ai8 (O+k.toNat)=.cP/\k∉ks2
 .have⟨Z,J2⟩:=Sn fk hm hi T b7 hx hk hA.1 hA.2;rw[G]at Z;refine Xo.op (n:=42) (v:=.bool true) (H':=B) (So (by simp[gv,aQ,az.aG,bE,Z])) (Xo.nil (n:=41) ?_);refine Xo.op (n:=45) (v:=.slice w O n z ex) (H':=B) (iq (by simp[gv,aQ,az.aG,bE];exact e3) F) ?_;refine Xo.op (n:=44) (v:=.int 3 k) (H':=B) (by simp[aH,gv,aQ,az.aG,bE];exact Y) ?_;refine Xo.op (n:=43) (v:=.map B.next) (H':=B.new (.map [] 0)) rfl ?_;refine Xo.op (n:=42) (v:=.aD w (O+j)) (H':=B.new (.map [] 0)) (sZ (n:=n) (c:=z) (e:=ex) (j:=j) (k:=3) (by simp[gv,aQ,az.aG,bE]) (by simp[gv,aQ,az.aG,bE];exact L) hj) ?_;have gi:(B.new (.map [] 0)).get w=.cells q V e true [] u:=by rw[ai.cL,an (bW aa)];exact b7.ii
  have wr:gF (B.new (.map [] 0)) w (O+j) [.map B.next]=some ((B.new (.map [] 0)).set w (.cells (ez q (O+j) [.map B.next]) V e true [] u)):=by
   unfold gF;rw[gi];have bv:decide (u<=O+j)=true:=by simp;omega
   have e2:decide (O+j+([.map B.next]:List AV).length<=V)=true:=by simp;omega
   simp only[bv,e2,aiU];rfl
  refine Xo.op (n:=41) (v:=.ai8) (H':=(B.new (.map [] 0)).set w (.cells (ez q (O+j) [.map B.next]) V e true [] u)) ?_ (Xo.nil (n:=40) ?_);·simp only[aH,gv,aQ,az.aG,bE,bg];simp[AV.cells,wr]
  have hh:∀cd:ah,cd≠w->cd≠B.next->((B.new (.map [] 0)).set w (.cells (ez q (O+j) [.map B.next]) V e true [] u)).get cd=B.get cd:=λcd p1 p2=>by rw[ai.aG,an p1,ai.cL,an p2]
  rw[G]at J2;refine aq _ _ B.next [] _ _ _ ?_ ?_ ?_ ?_ (by rw[ai.aG,aF rfl]) ?_ (bW aa) ?_ ?_ (bW aa) ?_ J2;·intro t R;have:t∉ [sl 22,sl 23,sl 24,sl 25,sl 26,sl 27,sl 28,sl 29,sl 30]:=λb'=>R ((by decide:∀t∈ [sl 22,sl 23,sl 24,sl 25,sl 26,sl 27,sl 28,sl 29,sl 30],t∈nS) t b');simp only[ac2,ahv,or_false,not_or]at this;simp[aQ,az.aG,this]
  .simp[aQ,az.aG,bE]
  .simp[aQ,az.aG,bE];exact Y
  .rw[mX (hh B1 W (bW aa))];exact F
  .rw[G,lg];simp
  .rw[hh m T (bW aa)];exact b7.mm
  .rw[ai.aG,an (bW aa),ai.cL,aF rfl];exact⟨aiP,[],rfl,rfl⟩
  exact hh _ (bW aa) (bW aa)
 have⟨N,tN,g1,g2,g3,g4,g5,J2⟩:=Sk fk fo hm hi b7 hx hk hA;have Z:q.br .ai8 (O+j)=.map N:=by rw[<-G];exact g1
 refine Xo.op (n:=42) (v:=.bool false) (H':=B) (Sp (N:=N) (by simp[gv,aQ,az.aG,bE,Z])) (Xo.nil (n:=41) (aq _ _ N tN q q nr ?_ ?_ ?_ F b7.ii g1 g2 b7.mm g5 (aiZ g4) rfl J2));·intro t R;have:t∉ [sl 22,sl 23,sl 24,sl 25,sl 26,sl 27,sl 28,sl 29,sl 30]:=λb'=>R ((by decide:∀t∈ [sl 22,sl 23,sl 24,sl 25,sl 26,sl 27,sl 28,sl 29,sl 30],t∈nS) t b');simp only[ac2,ahv,or_false,not_or]at this;simp[aQ,az.aG,this]
 .simp[aQ,az.aG,bE]
 simp[aQ,az.aG,bE];exact Y
end
end
open Classical in theorem aff{P:Program}:uu P 1002 zy:=by
 intro Wr ρ H H' w nt fr c1 c2 x y fq b a d1 d2 d3 hg hF hI f6 cs;injection d3 with hx hy;subst hx;subst hy;unfold zy at hg;split at hg;case h_2=>grind
 rename_i m Q o3 g1 g2;split at hg;case h_2=>grind
 rename_i i o n fs ex g3;split at hg;case h_2=>grind
 rename_i ks c dz e fz g4 g5;split at hg;case isFalse=>grind
 rename_i a';split at hg;case h_2=>grind
 rename_i d0 HE d4;injection hg with hg;injection hg with d5 d6;subst d5;subst d6;simp only[ahl,ah3]at a';have⟨⟨⟨d7,bc⟩,bv⟩,ax⟩:=a';have d':Q≠i:=BE d7;have bc:=aht bc;have bv:=aht bv;have ax:=(EO _).1 ax;have D:=nT g4;have wV:∀j:ah,H.get j≠.none->j.ap<H.next.ap:=λj hj=>by
  rcases aic j.ap H.next.ap with h|h;·exact h
  exact absurd (hI.du j h).1 hj
 have ag:∀N t,iC H N=some t->N.ap<H.next.ap:=λN t h=>wV N (xn (nT h)).1;have⟨s1,s2,s3,s4,s5,nm,s6,s7,s8⟩:=EP d4 ag D.1 ax;have c8:m.ap<H.next.ap:=ag m ks g4;have c9:i.ap<H.next.ap:=wV i (by rw[g5];simp);have dm:Q.ap<H.next.ap:=by have⟨_,_,_,_,_,_,q,_⟩:=uB g3;exact wV Q (by rw[q];simp)
 have cn:m≠i:=by rintro rfl;have⟨_,es,q,_⟩:=D;rw[g5]at q;simp[dC]at q
 have ea:Q≠m:=by rintro rfl;have⟨_,es,q,_⟩:=D;have⟨_,_,_,_,_,_,q',_⟩:=uB g3;rw[q']at q;simp[dC]at q
 let g:=jD c o ks;have eg:∀N,N∈g->∃f6∈ks,∃t0,c.br .ai8 (o+f6.toNat)=.map N/\N≠m/\iC H N=some t0/\HE.get N=.cK (dt (eX (fV f6 ks) t0)):=by
  intro N B;have⟨f6,h1,h2⟩:=s9.1 B;obtain⟨j,_,_,h3|⟨N',t0,h3,h4,M,h6⟩⟩:=s1 f6 h1;·rw[h3]at h2;cases h2
  rw[h3]at h2;injection h2 with h2;subst h2;exact⟨f6,h1,t0,h3,h4,M,h6⟩
 have eb:i∉g:=λh=>by have⟨_,_,t0,_,_,M,_⟩:=eg i h;have⟨_,es,q,_⟩:=nT M;rw[g5]at q;simp[dC]at q
 have ec:Q∉g:=λh=>by have⟨_,_,t0,_,_,M,_⟩:=eg Q h;have⟨_,es,q,_⟩:=nT M;have⟨_,_,_,_,_,_,q',_⟩:=uB g3;rw[q']at q;simp[dC]at q
 let hl:ah->Prop:=λj=>(H.get j).pB/\j≠Q/\j≠i/\j≠m/\j∉g;have ei:¬hl Q:=λh=>h.2.1 rfl;have ej:¬hl i:=λh=>h.2.2.1 rfl;have ek:¬hl m:=λh=>h.2.2.2.1 rfl;have el:∀N,N∈g->¬hl N:=λN B h=>h.2.2.2.2 B;have b0:∀j,H.next.ap<=j.ap->¬hl j:=λj hj h=>h.1.2.2 (hI.du j hj).1;have⟨C,s,ay⟩:=H.iy (λj h=>(hI.du j h).1) hl;have X:bm P (Wr.i9 ρ hl λ_=>False) ρ C w:=hI.sO (λi h=>h.1) (λ_ h=>h.elim) s (λj=>by
  by_cases h:hl j;·exact .inr ((ay j).1 h)
  exact .inl ((ay j).2 h)) (λj h=>(ay j).1 h);have T:∀j,¬hl j->C.get j=H.get j:=λj h=>(ay j).2 h;let p:ai:=((HE.set i (.cells d0 dz e true [] fz)).set m (.cK (dt ks))).skip;have r:∀j,p.get j=if j=m then .cK (dt ks)else if j=i then .cells d0 dz e true [] fz else HE.get j:=λj=>by
  show((HE.set i _).set m _).get j=_;rw[ai.aG];split;·rfl
  rw[ai.aG]
 have L:p.next.ap=HE.next.ap+1:=ah.eP _;have cd:∀j:ah,p.next.ap<=j.ap->p.get j=.none:=λj hj=>by rw[L]at hj;rw[r,an (bW aa),an (bW aa),s4 j aa];exact(hI.du j aa).1
 have⟨Rs,b3,cp⟩:=p.iy cd hl;have gr:∀j,¬hl j->Rs.get j=p.get j:=λj h=>(cp j).2 h;have fk:∀f6∈ks,∃j,f6=.ofNat j/\j<n/\(c.br .ai8 (o+f6.toNat)=.cP\/∃N,c.br .ai8 (o+f6.toNat)=.map N/\N≠m/\N≠i/\N.ap<C.next.ap/\N∈g):=by
  intro f6 z;obtain⟨j,h1,h2,h3|⟨N,t0,h3,h4,M,h6⟩⟩:=s1 f6 z;·exact⟨j,h1,h2,.inl h3⟩
  have B:N∈g:=s9.2 ⟨f6,z,h3⟩;exact⟨j,h1,h2,.inr ⟨N,h3,h4,λh=>eb (h▸B),by rw[s];exact ag N t0 M,B⟩⟩
 have f0:∀f6 k2 N,f6∈ks->k2∈ks->c.br .ai8 (o+f6.toNat)=.map N->c.br .ai8 (o+k2.toNat)=.map N->f6=k2:=λf6 k2 N h1 h2 h3 h4=>JM ax h1 h2 h3 h4;have av:m.ap<C.next.ap:=by rw[s];exact c8
 have aw:i.ap<C.next.ap:=by rw[s];exact c9
 have cf:Q.ap<C.next.ap:=by rw[s];exact dm
 have et:aY C Q o3=some (.slice i o n fs ex):=by rw[mX (T Q ei)];exact g3
 have⟨cv,ba,dr,ds⟩:=uz (JN D);have dv:cv.map aV.kv=ks.map sk:=by have⟨_,es,O,q2⟩:=D;rw[ba]at O;injection O with O;subst O;exact q2
 let t0:ah->List Int:=λN=>(iC H N).getD [];have ew:fr=⟨fr.af,fr.bA,fr.bx⟩:=rfl;have dx:gY P (Wr.i9 ρ hl λ_=>False) ρ nt w b f6 cs (lone (b.atR a (.code (.seq c1 c2)::f6)) cs w) λj cx H1=>j=.none/\cx={fr with af:=jn fr.af nS}/\H1=Rs:=by
  refine EH Si d1 d2 (co:=nS) bt bt bt bt bt bt bt bt bt bt bt bt bt hF X (m:=m) (es:=cv) (ks:=ks) (by rw[T m ek];exact ba) dr 20 60 ?_ (J:=λu d l H1=>(∃I,fx (.map u d) I/\∀x,x∈I↔x∈ks)/\∃c' V,nV C m i c o dz e fz ks t0 g u d l H1 c' V) ?_ ?_ ?_ ?_ ?_ f6 cs
  .intro u d;rw[ew];refine Xc.region (n:=19) (Xo.op (n:=18) (v:=.map m) (H':=C.set m (.map u d)) (by simp[aH,gv,g1]) ?_);refine Xo.op (n:=17) (v:=.aD C.next 0) (H':=(C.set m (.map u d)).new (.mapIter (some m) d [] d)) (by simp[aH,gv,aQ,az.aG,bE,ai.aG];rfl) (Xo.nil (n:=16) ?_);refine⟨rfl,rfl,rfl,?_,?_,rfl⟩;·intro t ht;have:t∉ [sl 16,sl 17]:=λh=>ht ((by decide:∀t∈ [sl 16,sl 17],t∈nS) t h);simp only[ac2,ahv,or_false,not_or]at this;simp[aQ,az.aG,this]
   simp[aQ,az.aG,bE]
  .intro u d hp;have⟨I,O,q2⟩:=Sh ds dv hp d;refine⟨⟨I,O,λx=>q2.mem_iff⟩,c,λ_=>.xH,?_⟩;have G:∀j:ah,((C.set m (.map u d)).new (.mapIter (some m) d [] d)).get j=if j=C.next then .mapIter (some m) d [] d else if j=m then .map u d else C.get j:=λj=>by rw[ai.cL,ai.eK,ai.aG]
   refine⟨by show C.next.ap<C.next.succ.ap;rw[ah.eP];omega,λj h1 h2 h3 h4=>?_,?_,?_,aC,aC,λ_ _=>rfl,λf6 z N B=>?_,λj hj hg=>?_,aC⟩;·rw[G,an (bW aa),an h2]
   .rw[G,an (bW aa),aF rfl]
   .rw[G,an (bW aa),an (aiZ cn),T i ej];exact g5
   .obtain⟨_,_,_,h'|⟨N',h',e0,_,cy,cE⟩⟩:=fk f6 z;·rw[h']at B;cases B
    rw[h']at B;injection B with B;subst B;have⟨_,_,tt,_,_,M,_⟩:=eg N' cE;rw[G,an (bW aa),an e0,T N' (el N' cE)];refine⟨tt,nT M,λx=>?_⟩;have:t0 N'=tt:=by show(iC H N').getD []=tt;rw[M];rfl
    rw[this];simp
   rw[G,an (bW aa),an (bW aa)]at hg;rw[s]at hj;rw[T j (b0 j aa)]at hg;exact absurd (hI.du j aa).1 hg
  .rintro u d l H1 it⟨O,c',V,J⟩;refine⟨O,c',V,J.set it av aw λf6 z N B=>?_⟩;obtain⟨_,_,_,h'|⟨N',h',_,_,cy,_⟩⟩:=fk f6 z;·rw[h']at B;cases B
   rw[h']at B;injection B with B;subst B;exact cy
  .rintro u d l H1⟨_,c',V,J⟩;exact J.mm
  .rintro u d l af H1 kk e4⟨⟨I,O,q2⟩,c',V,J⟩he e5;have f1:af.get .ai8 (sl 3)=.aD Q o3:=(he _ bt).trans g2;have f2:af.get .ai8 (sl 4)=.map m:=(he _ bt).trans g1;refine(Sq fk f0 av aw cn cf ea d' ec bc bv et e4 O q2 f1 f2 e5 J).mono (aeE _) ?_;rintro j cx H2⟨r1,r2,r3,r4,r5,r6,e6,e7,J2⟩;exact⟨r1,r2,r3,λt ht=>(r4 t ht).trans (he t ht),r5,r6,⟨I,O,q2⟩,e6,e7,J2⟩
  rintro u d l H1 R w' S⟨⟨I,b4,e8⟩,c',V,J⟩a1 e9 _;let new:ah->Prop:=λj=>∃f6,f6∈ks/\c.br .ai8 (o+f6.toNat)=.cP/\nm f6=j;let σ:ah->ah:=λj=>if h:new j then V (Classical.choose h)else j;have a2:∀f6,f6∈ks->c.br .ai8 (o+f6.toNat)=.cP->σ (nm f6)=V f6:=by intro f6 z hn;have Y:new (nm f6):=⟨f6,z,hn,rfl⟩;have E:=Classical.choose_spec Y;have:Classical.choose Y=f6:=s7 _ _ E.1 z E.2.1 hn E.2.2;show(if h:new (nm f6)then V (Classical.choose h)else nm f6)=V f6;rw[dif_pos Y,this]
  let a6:aP:=⟨λj=>if j.ap<C.next.ap then ρ j else if new j then R (σ j)else none,R.k⟩;have dy:∀f6,f6∈ks->c.br .ai8 (o+f6.toNat)=.cP->a6 (nm f6)=R (V f6):=by intro f6 z hn;have Y:new (nm f6):=⟨f6,z,hn,rfl⟩;have:=(s6 f6 z hn).1;show(if(nm f6).ap<C.next.ap then ρ (nm f6)else if new (nm f6)then R (σ (nm f6))else none)=_;rw[an (by rw[s];omega),aF Y,a2 f6 z hn]
  have bb:b9 ρ a6:=by
   intro j x hj;refine⟨?_,(a1 j x hj).2⟩;show(if j.ap<C.next.ap then ρ j else _)=_;rcases aic j.ap C.next.ap with h|h;·rw[aF h];exact hj
   rw[(X.du j h).2]at hj;cases hj
  refine⟨a6,bm.EM X a1 e9 (by rw[b3,L,s];omega) σ new a6 rfl ?_ ?_ ?_ ?_⟩
  .intro j hj hg;rw[s]at hj;rw[gr j (b0 j hj),r,an (bW aa),an (bW aa)]at hg;rcases aic j.ap HE.next.ap with h|h;·have⟨f6,h1,h2,h3⟩:=s8 j hj h;exact⟨f6,h1,h2,h3⟩
   rw[s4 j h]at hg;exact absurd (hI.du j hj).1 hg
  .rintro j⟨f6,z,hn,rfl⟩;have⟨O,q2,q3,q4⟩:=s6 f6 z hn;have⟨r1,r2,r3,e',r4,r5⟩:=J.new f6 ((S f6).2 z) hn;have fa:Rs.get (nm f6)=.cK (dt (fV f6 ks)):=by rw[gr _ (b0 _ O),r,an (bW aa),an (bW aa)];exact q3
   have E:=xn r4;rw[a2 f6 z hn,fa];refine⟨by rw[s];exact O,by rw[b3,L];omega,aa,E.1,E.2.1,E.2.2.1,rfl,rfl,E.2.2.2,λx W f=>OR.uA r4 ?_ f,λq W _=>by simp[eQ]⟩;refine(List.perm_ext_iff_of_nodup r4.1 (BB D.1)).2 λx=>?_;rw[r5,rO]
  .rintro j1 j2⟨k1,h1,n1,rfl⟩⟨k2,h2,n2,rfl⟩he;rw[a2 k1 h1 n1,a2 k2 h2 n2]at he;rw[J.inj k1 k2 ((S k1).2 h1) ((S k2).2 h2) n1 n2 he]
  intro j hj hg;rw[s]at hj;have F:¬hl j:=λh=>hg ((cp j).1 h);rw[gr j F]at hg⊢;rw[T j F];by_cases e1:j=m
  .subst e1;have p1:=xn D;have p2:=xn b4;have hr:p.get j=.cK (dt ks):=by rw[r,aF rfl]
   rw[hr,J.mm];exact⟨p1.1,aC,p1.2.1▸rfl,p1.2.1▸rfl,rfl,rfl,λx W f=>OR.uA b4 ((List.perm_ext_iff_of_nodup b4.1 D.1).2 e8) f,λq W _=>by simp[eQ]⟩
  by_cases e2:j=i
  .subst e2;have hr:p.get j=.cells d0 dz e true [] fz:=by rw[r,an e1,aF rfl]
   rw[hr,J.ii,g5];refine⟨aC,aC,rfl,rfl,rfl,rfl,λx W f=>?_,λq W hq=>?_⟩
   .obtain⟨f3,x0,cR,_,_,A⟩:=X.dq j (by rw[T j F,g5];simp);rw[T j F,g5]at A;cases cR<;>simp only[OR]at A;cases W<;>simp only[OR]at f⊢;refine⟨f.1,f.2.1,λy hy=>?_,f.2.2.2⟩;have⟨v,fb,K⟩:=f.2.2.1 y hy;refine⟨v,fb,?_⟩;by_cases z:∃f6,f6∈ks/\c.br .ai8 (o+f6.toNat)=.cP/\y=o+f6.toNat
    .have⟨f6,b6,b7,fd⟩:=z;subst fd;rw[(s6 f6 b6 b7).2.2.2];rw[(J.new f6 ((S f6).2 b6) b7).2.2.1]at K;cases v with
     |map fp=>cases fp with|none=>simp[VR]at K|some fp=>simp only[VR]at K⊢;rw[dy f6 b6 b7];exact K
     |_=>simp[VR]at K
    have h1:c'.br .ai8 y=c.br .ai8 y:=J.cc y λf6 b' ca he=>z ⟨f6,(S f6).1 b',ca,he⟩;have h2:d0.br .ai8 y=c.br .ai8 y:=s5 y λf6 b' ca he=>z ⟨f6,b',ca,he⟩;rw[h1]at K;rw[h2];have⟨v0,_,fe⟩:=A.2.2.1 y hy;exact VR.mono bb _ _ (VR.eS a1 _ _ _ fe K)
   cases W<;>simp only[eQ]at hq⊢;exact hq
  by_cases e3:j∈g
  .have⟨f6,z,tt,h3,h4,M,h6⟩:=eg j e3;have hr:p.get j=.cK (dt (eX (fV f6 ks) tt)):=by rw[r,an e1,an e2];exact h6
   have⟨e',r1,r2⟩:=J.cI f6 z j h3;have p1:=xn (nT M);have p2:=xn r1;rw[hr];refine⟨p1.1,p2.1,p2.2.1.trans p1.2.1.symm,p1.2.1▸rfl,p2.2.2.1,p2.2.2.2,λx W f=>OR.uA r1 ((List.perm_ext_iff_of_nodup r1.1 (nR _ (nT M).1)).2 λx=>?_) f,λq W _=>by simp[eQ]⟩;have:t0 j=tt:=by show(iC H j).getD []=tt;rw[M];rfl
   rw[r2,this,lL,rO,S];constructor
   .rintro(h|⟨_,h⟩);·exact .inr h
    exact .inl h
   rintro(h|h);·exact .inr ⟨z,h⟩
   exact .inl h
  have h1:H1.get j=H.get j:=by rw[J.ma j (by rw[s];exact hj) e1 e2 e3,T j F]
  have hr:p.get j=H.get j:=by rw[r,an e1,an e2,s3 j hj e3]
  rw[hr]at hg⊢;rw[h1];refine⟨hg,hg,rfl,rfl,rfl,rfl,λx W f=>?_,λq W hq=>hq⟩;obtain⟨f3,x0,cR,_,_,A⟩:=X.dq j (by rw[T j F];exact hg);rw[T j F]at A;have a8:∃c n e Z aK fz,H.get j=.cells c n e Z aK fz:=by
   by_cases h3:j=Q;·have⟨c,n,e,Z,aK,fz,q,_⟩:=uB g3;rw[h3];exact⟨c,n,e,Z,aK,fz,q⟩
   have fl:¬(H.get j).pB:=λh=>F ⟨h,h3,e2,e1,e3⟩;cases ho:H.get j with|cells c n e Z aK fz=>exact⟨c,n,e,Z,aK,fz,rfl⟩|none=>exact absurd ho hg|_=>exact absurd ⟨by rw[ho];rfl,by rw[ho];rfl,hg⟩ fl
  have⟨_,_,_,_,_,_,hc⟩:=a8;rw[hc]at f A⊢;exact OR.mono bb (OR.JL a1 A f)
 obtain⟨j,f5,H',R,f4,w',t,⟨rfl,rfl,rfl⟩,q2,q3,q4,q5,q6,q7⟩:=dx;have fo:∀j,hl j->p.get j=H.get j:=λj h=>by rw[r,an h.2.2.2.1,an h.2.2.1,s3 j (wV j h.1.2.2) h.2.2.2.2]
 have⟨u1,u2⟩:=hI.EL (λj h=>h.1) q2 q4 q5 (H2:=p) b3.symm fo (λj h=>(gr j h).symm);exact⟨.none,_,p,R,f4,w',t,⟨rfl,rfl,rfl⟩,q2,q3,u1,u2,q6,q7⟩
section
variable[Ov]
variable{P:Program}
theorem bm.grow{os:Array Obj}(h:bm P W S B M)(d:w'.heap=M.heap++os)(f:w'.os=M.os)(g:w'.tape=M.tape)(hu:w'.output=M.output):bm P W S B w'/\dk W M w':=by
 have hs:M.heap.size<=w'.heap.size:=by rw[d];simp
 have hb:∀b,b<M.heap.size->w'.heap[b]?=M.heap[b]?:=λb hb=>by rw[d,Array.getElem?_append_left hb]
 have hl:∀{b:Nat}{a:Obj},M.heap[b]?=some a->b<M.heap.size:=λe=>(Array.getElem?_eq_some_iff.1 e).1;refine⟨⟨?_,h.jC,h.aK,h.wr,h.du,λk c=>h.new k (aiw hs c),h.kR,?_,λi b x e=>ahC (h.ef i b x e) hs,h.rd,h.un,h.dJ⟩,⟨f,g,hu,hs,λk c _=>hb k c⟩⟩;·intro i hi;have⟨b,x,a,e,h1,h2⟩:=h.dq i hi;grind
 intro i b x a hi e h1;rw[hb b (h.ef i b x e)]at h1;exact h.iK i b x a hi e h1
structure JO(P:Program)(f:FuncId):Prop where
 fn:∃fn,P.funcs[f]?=some fn/\(fn.name== "runtime.NumGoroutine")=false/\fn.body.isNone=false
theorem JP{f:FuncId}(i:JO P f){R:Ending->World->Prop}(j:Calls P f Z M R)(k:∀e a,R e a->∃c,e=.returned c/\cM P W S M Y B c a)(fr:Frame)(cs:List Frame)(hat:qk fr):wM P W S M (callFunc f Z) fr cs λl d=>l=Y/\d=B:=by
 have⟨fn,h1,h2,h3⟩:=i.fn;have b:(callFunc f Z).run P M=.ok (.enter f Z) M:=by simp only[callFunc,Sem.run_bind,run_program,Result.andThen_ok,h1,h2,h3,abH,bF,Sem.run_pure]
 have⟨e,a,o,m,g,_,h⟩:=j (fr::cs);obtain⟨c,rfl,n⟩:=k e a m;exact⟨Y,B,c,a,_,_,_,⟨rfl,rfl⟩,n,IF hat b,(Steps.trans g (.one (step_leave_returned h)))⟩
theorem EQ(x:Int):∀l,(lj x l).Perm (x::l)
 |[]=>ai3 _
 |y::l=>by
  simp only[lj];split;·exact((EQ x l).cons y).trans (ah5 x y l)
  rfl
theorem ta:∀l,(eL l).Perm l|[]=>ai3 _|x::l=>(EQ x (eL l)).trans ((ta l).cons x)
theorem JQ(x:Int):∀l,l.Pairwise (·<=·)->(lj x l).Pairwise (·<=·)
 |[],_=>by simp[lj]
 |y::l,h=>by
  simp only[lj];rw[aiG]at h;split
  .rename_i a;rw[li]at a;have a:y<x:=by simpa using a
   rw[aiG];refine⟨λz b=>?_,JQ x l h.2⟩;grind[EQ]
  grind[li,List.pairwise_cons]
theorem xp:∀l,(eL l).Pairwise (·<=·)|[]=>ai4|x::l=>JQ x _ (xp l)
theorem BG:∀{l m:List Int},l.Pairwise (·<=·)->m.Pairwise (·<=·)->l.Perm m->l=m
 |[],m,_,_,h=>(List.nil_perm.1 h).symm
 |a::l,[],_,_,h=>by simp at h
 |a::l,b::m,h1,h2,h=>by
  rw[aiG]at h1 h2;have d:a=b:=by
   have f:a∈b::m:=h.mem_iff.1 (acj ..);have hb:b∈a::l:=h.mem_iff.2 (acj ..);rcases ac2.1 f with e|e;·exact e
   rcases ac2.1 hb with c|c;·exact c.symm
   have:=h1.1 b c;have:=h2.1 a e;omega
  subst d;rw[BG h1.2 h2.2 ((List.perm_cons a).1 h)]
theorem Sr(h:E.Perm ks):(E.mergeSort λx y=>decide (x<=y))=eL ks:=by grind[BG,xp,List.mergeSort_perm,trans,ta,List.pairwise_mergeSort,decide]
def uF(c:az AV):Nat->Nat->Option (List Int)
 |_,0=>some []
 |o,n+1=>match c.br .ai8 o,uF c (o+1) n with
  |.int 3 z,some l=>some (z::l)
  |_,_=>none
theorem JR:∀{n o:Nat}{a:List Int},uF A o n=some a->a.length=n/\∀i(h:i<a.length),A.br .ai8 (o+i)=.int 3 (a[i])
 |0,o,a,h=>by simp_all[uF,aa9]
 |n+1,o,a,h=>by
  simp only[uF]at h;split at h;·rename_i z l h1 h2;injection h with h;subst h;have⟨b,c⟩:=JR h2;grind
  grind
def tb(args:List AV)(H:ai):Option (AV×ai):=
 match args with
 |[.bj]=>some (.tuple [],H)
 |[.slice id 0 n _ _]=>match H.get id with
  |.cells c m 3 true aK 0=>if ahr m n&&ahO 0 n&&aih n 4000000 then match uF c 0 n with
    |some a=>some (.tuple [],(H.eI aK).set id (.cells (cr ((eL a).map λz=>.int 3 z)) n 3 true [] 0))
    |none=>none
   else none
  |_=>none
 |_=>none
open Go.Sort in theorem afg{f:FuncId}(Z:JO P f)(hs:∀(aE off cap:Nat)(d:List Int)(w:World),Holds (Value.int .i64) w aE off d.toArray->aE<w.heap.size->d.length<4611686018427387904->Calls P f #[.slice (some ⟨aE,off,none⟩) d.length cap] w λe w'=>e=.returned (.tuple #[])/\∃n os,w'=grow (putRow (Value.int .i64) (Sort.ahead w n) aE off (d.mergeSort λx y=>decide (x<=y)).toArray) os)(hn:∀(p:Option Addr)(cap:Nat)(w:World),Calls P f #[.slice p 0 cap] w λe w'=>e=.returned (.tuple #[])/\w'=w):zc P f tb:=by
 intro Wr R H H' w args v r hg o O fr cs hat;unfold tb at hg;split at hg
 .injection hg with hg;injection hg with B C;subst B;subst C;have⟨l⟩:=r;cases l with
  |nil=>trivial
  |cons c l=>
   cases l with
   |cons _ _=>simp[be]at o
   |nil=>
    simp only[be,and_true]at o;have hc:c=.slice none 0 0:=by exact o.lh
    subst hc;refine JP Z (hn none 0 w) ?_ fr cs hat;rintro e w'⟨rfl,rfl⟩;exact⟨_,rfl,cM.bI O (by trivial)⟩
 .rename_i id n cap ex;split at hg;case h_2=>cases hg
  rename_i c m aK A;split at hg;case isFalse=>cases hg
  rename_i s;simp only[ahl]at s;have⟨⟨D,I⟩,J⟩:=s;have D:=ahn D;subst D;have I:0<m:=Eq.mp aib I;have J:=aht J;split at hg;case h_2=>cases hg
  rename_i d hz;injection hg with hg;injection hg with B C;subst B;subst C;have⟨K,V⟩:=JR hz;have⟨l⟩:=r;cases l with
  |nil=>simp[be]at o
  |cons cv l=>
   cases l with
   |cons _ _=>simp[be]at o
   |nil=>
    simp only[be,and_true]at o;obtain⟨b,x,ob,S,L,q,E⟩:=O.aE (i:=id) (by rw[A];simp);have W:∃cc,cv=.slice (some ⟨b,x,none⟩) m cc:=by
     cases cv with
     |slice a n' cc=>cases a with|none=>simp[VR]at o|some a=>simp only[VR]at o;have⟨h1,h2,h3,h4,b',x',Q,h5,h6⟩:=o;rw[S]at Q;injection Q with Q;injection Q with q1 q2;subst q1;subst q2;rw[h5 aa,h1];exact⟨cc,rfl⟩
     |_=>simp[VR]at o
    obtain⟨cc,rfl⟩:=W;rw[A]at E;cases ob<;>simp only[OR]at E;rename_i cells el fz;obtain⟨rfl,X,N,t⟩:=E;have hH:Holds (Value.int .i64) w b x d.toArray:=by
     intro j hj;have M:j<d.length:=by simpa using hj
     have⟨y,hy,T⟩:=N j aa;have:=V j M;rw[ahw]at this;rw[this]at T;constructor
     .simp only[World.cell?,q,Option.isSome_none,abH,bF,hy];cases y<;>simp only[VR]at T;rename_i kk z;have⟨h1,h2⟩:=T;have:kk=.i64:=by cases kk<;>simp[kc]at h1<;>rfl
      subst this;rw[<-h2];simp[getElem!_pos,M]
     have:=t trivial (x+j) aa aa;have⟨lo,hi⟩:=fz;simp only[World.frozen?,q];simp only at this;simp;omega
    have g:=hs b x cc d w hH L aa;rw[K]at g;refine JP Z g ?_ fr cs hat;rintro e w'⟨rfl,k,os,rfl⟩;refine⟨_,rfl,?_⟩;rw[Sr (ai3 d)];have Y:(eL d).length=m:=by rw[(ta d).length_eq,K]
    have u:bm P Wr R ((H.eI aK).set id (.cells (cr ((eL d).map λz=>.int 3 z)) m 3 true [] 0)) {w with heap:=w.heap.setIfInBounds b (.cells (putCells (Value.int .i64) x (eL d).toArray cells) 3 fz)}/\dk Wr w {w with heap:=w.heap.setIfInBounds b (.cells (putCells (Value.int .i64) x (eL d).toArray cells) 3 fz)}:=by
     have:=O.pi (i:=id) (b:=b) (x:=x) (o':=.cells (cr ((eL d).map λz=>.int 3 z)) m 3 true [] 0) (ob':=.cells (putCells (Value.int .i64) x (eL d).toArray cells) 3 fz) (w':={w with heap:=w.heap.setIfInBounds b (.cells (putCells (Value.int .i64) x (eL d).toArray cells) 3 fz)}) (by rw[A];simp) (by rw[A];rfl) S rfl ?_ ?_ rfl rfl rfl rfl;·rw[A]at this;exact this
     .simp only[OR];refine⟨trivial,by simp[putCells];exact X,λi hi=>?_,λ_ i h1 h2=>t trivial i h1 (by simpa[putCells]using h2)⟩;have F:i<(eL d).length:=aa;refine⟨.int .i64 ((eL d)[i]),?_,?_⟩;·simp only[putCells,Array.getElem?_mapIdx];rw[getElem?_pos cells (x+i) aa];simp[Y,hi,F,getElem!_pos]
      rw[nN _ _ (by simpa using F)];simp[List.getD,F,VR,kc]
     have h:=O.iK id b x _ (by rw[A];simp) S q;rw[A]at h;simp only[eQ]at h⊢;rw[h];simp[putCells]
    have G:(grow (putRow (Value.int .i64) (Sort.ahead w k) b x (eL d).toArray) os).heap=w.heap.setIfInBounds b (.cells (putCells (Value.int .i64) x (eL d).toArray cells) 3 fz)++os:=by
     show(w.heap.modify b (onCells _))++os=_;congr 1;apply Array.ext_getElem?;intro i;rw[Array.getElem?_modify,ahL];by_cases hi:b=i;·subst hi;rw[aF rfl,aF rfl,q,aF L];rfl
     rw[an hi,an hi]
    have⟨u1,u2⟩:=bm.grow u.1 (w':=grow (putRow (Value.int .i64) (Sort.ahead w k) b x (eL d).toArray) os) (os:=os) G rfl rfl rfl;exact⟨R,b9.refl R,by simp[VR,be],u1,u.2.trans u2⟩
 grind
end
section
def JS(b a:Nat):bw:=.seq (.region [bG 2 (.bf (.c .bj))]) (.seq (.region [bG 3 (.bf (tt 0)),bG 4 (.call (.c (.func b [] [])) [tt 3]),bG 5 (.call (.c (.func a [] [])) [tt 4]),bG 2 (.bf (tt 5))]) .ret)
def ER(a b:Nat):bw:=.seq (.region [bG 2 (.bf (.c .bj))]) (.seq (.region [bG 4 (.bf (tt 0)),bG 5 (.call (.c (.func a [] [])) [tt 4]),bG 3 (.bf (tt 5))]) (.seq (.region [bG 6 (.bf (tt 3)),bG 7 (.call (.c (.func b [] [])) [tt 6])]) (.seq (.region [bG 8 (.bf (tt 3)),bG 2 (.bf (tt 8))]) .ret)))
def ES(a e1:Nat):bw:=.seq (.region [bG 1 (.box e1 (tt 0)),bG 2 (.bf (.c .nilFunc))]) (.seq (.region [bG 3 (.k6 a [] [tt 1]),bG 2 (.bf (tt 3))]) .ret)
def BH(a:Nat):bw:=.seq (.region [bG 2 (.bf (.c .bj))]) (.seq (.region [bG 3 (.bf (tt 0)),bG 4 (.call (.c (.func a [] [])) [.c .bj,tt 3]),bG 2 (.bf (tt 4))]) .ret)
def Ss:bw:=.seq (.region [bG 10 (.bf (tt 0)),bG 11 (.bf (tt 3)),bG 12 (.call (tt 10) [tt 11]),bG 13 (.unary .not (tt 12))]) (.cond (tt 13) .ret .skip)
def ET:bw:=.seq (.region [bG 4 (.aW (tt 1)),bG 5 (.lX (tt 4))]) (pz 0 1 (sl 5) (sl 6) (sl 7) (sl 8) (sl 9) (sl 3) Ss)
def tc:bw:=.region [bG 5 (.bf (tt 7))]
def tf:bw:=.block 1 (.region [bG 8 (.aW (tt 2)),bG 9 (.bf (tt 5)),bG 10 (.buildSlice 3 1 [.int 3 (.ofNat 0)] [(0,1,tt 9)]),bG 11 (.append 3 8 1 [.int 3 (.ofNat 0)] false (tt 8) (tt 10)),pg (.store 1 (tt 2) (tt 11))])
def xu(e2:Nat):bw:=.seq (.region [bG 2 (.box e2 (tt 0)),bG 4 (.bf (.c .bj))]) (.seq (.seq (.region [bG 6 (.bf (tt 1))]) (.block 0 (.rangeFunc (tt 6) [sl 7] tc tf))) (.seq (.region [bG 12 (.aW (tt 2)),bG 4 (.bf (tt 12))]) .ret))
section
variable[Ov]
variable{ac:Nat->aX}
theorem EU{c:az AV}{n:Nat}:∀{l:List Int}{o:Nat},o+l.length<=n->(∀i(h:i<l.length),c.br .ai8 (o+i)=.int 3 (l[i]))->fZ c n o l.length=some (l.map λz=>.int 3 z)|[],o,_,_=>by rfl|z::l,o,h,hg=>by simp only[ahK,fZ,ahk];have h0:c.br .ai8 o=.int 3 z:=hg 0 aC;have a:=EU (c:=c) (n:=n) (l:=l) (o:=o+1) (by simp at h;omega) (λi hi=>by have:=hg (i+1) (by simpa using hi);rw[show o+(i+1)=o+1+i by omega]at this;simpa using this);grind
def qA(H:ai)(lo:Nat)(l:List Int)(a:AV):Prop:=
 (l=[]/\a=.bj)\/∃id c aK,a=.slice id 0 l.length l.length false/\l≠ []/\lo<id.ap/\id.ap<H.next.ap/\H.get id=.cells c l.length 3 true aK 0/\(∀i(h:i<l.length),c.br .ai8 i=.int 3 (l[i]))/\∀p∈aK,lo<p.ap
theorem qA.frame(h:qA B n E Y)(d:B.next.ap<=H.next.ap)(hg:∀j:ah,n<j.ap->j.ap<B.next.ap->H.get j=B.get j):qA H n E Y:=by
 rcases h with h|⟨id,c,aK,h1,h2,h3,e,f,a,b⟩;·exact .inl h
 exact .inr ⟨id,c,aK,h1,h2,h3,aa,by grind,a,b⟩
theorem St{lo:Nat}{k:Int}(o:gv A a=Y)(q:gv A ok_=.slice N 0 1 1 true)(s:B.get N=.cells (cr [.int 3 k]) 1 3 true [] 0)(hs:qA B lo l Y)(f:lo<B.next.ap)(hl:l.length<1000):∃g m,aH (.append 3 8 1 [.int 3 (.ofNat 0)] false a ok_) A B=some (g,m)/\B.next.ap<=m.next.ap/\(∀j:ah,j.ap<=lo->m.get j=B.get j)/\qA m lo (l++[k]) g:=by
 have b:gh B 1 (.slice N 0 1 1 true)=some (1,[.int 3 k]):=by
  have:fZ (cr [AV.int 3 k]) 1 0 1=some [.int 3 k]:=by have:=EU (c:=cr [AV.int 3 k]) (n:=1) (l:=[k]) (o:=0) aC (λi hi=>by simp only[ahJ]at hi;have:i=0:=aa;subst this;rw[nN _ _ aC];rfl);simpa using this
  simp[gh,dE,s,this]
 have d:∀n:Nat,n<=1000->(dU (n*8)&&dU n)=true:=λn C=>by simp only[dU,ahl];exact⟨ahV aa,ahV aa⟩
 rcases hs with⟨rfl,rfl⟩|⟨id,c,aK,rfl,y,h3,D,t,u,v⟩
 .refine⟨.slice B.next 0 1 1 false,B.new (.cells (cr [.int 3 k]) 1 3 true [] 0),?_,?_,?_,?_⟩;·simp only[aH,abH,bF,o,q,b,jk];have:=d 1 aa;simp[cU,AV.cY,dU]
  .show _<=B.next.succ.ap;rw[ah.eP];omega
  .intro j hj;rw[ai.cL,an (bW aa)]
  refine .inr ⟨B.next,cr [.int 3 k],[],rfl,aC,f,by show _<B.next.succ.ap;rw[ah.eP];omega,by rw[ai.cL,aF rfl];rfl,λi hi=>?_,aC⟩;simp only[aie,ahJ]at hi;have:i=0:=aa;subst this;rw[nN _ _ aC];rfl
 have hrd:fZ c l.length 0 (l.length*1)=some (l.map λz=>.int 3 z):=by rw[aiE];exact EU aa λi hi=>by rw[ahw];exact u i hi
 have r:id≠B.next:=bW aa;refine⟨.slice B.next 0 (l.length+1) (l.length+1) false,(B.set id (.cells c l.length 3 false aK 0)).new (.cells (cr ((l.map λz=>.int 3 z)++[.int 3 k])) ((l.length+1)*1) 3 true (id::aK) (0 - 0)),?_,?_,?_,?_⟩
 .simp only[aH,abH,bF,o,q,b,jk];have hb:=d (l.length+1) aa;have h1:cU [.int 3 k]=true:=rfl;have h2:aih (l.length+1) l.length=false:=by cases h:aih (l.length+1) l.length with|false=>rfl|true=>have:=aht h;omega
  have w:(true&&ahr l.length l.length&&ahr (0+l.length*1) l.length&&ahr 3 3&&aih 0 l.length)=true:=by simp[ait]
  simp only[h1,h2,hb,t,hrd,w,ahN,abH,bF,bg]
 .show _<=B.next.succ.ap;rw[ah.eP];omega
 .intro j hj;rw[ai.cL,ai.eK,an (bW aa),ai.aG,an (bW aa)]
 refine .inr ⟨B.next,cr ((l.map λz=>.int 3 z)++[.int 3 k]),id::aK,aC,aC,f,by show _<B.next.succ.ap;rw[ah.eP];omega,by rw[ai.cL,ai.eK,aF rfl];simp,λi hi=>?_,?_⟩
 .rw[nN _ _ (by simpa using hi)];simp only[ae8,ahJ]at hi;by_cases he:i<l.length;·simp[List.getD,ahE,he,List.getElem_append_left]
  have:i=l.length:=aa;subst this;simp[List.getD]
 intro p x;rcases ac2.1 x with e|e;·rw[e];exact h3
 exact v p e
theorem Xf.yield{bU:cC}(U:B.get N=.loop .ready bU O A [w] d x B1)(c:Xc ac n d ⟨A.set .ai8 w Y,[],some N⟩ B λj fr a=>j=.none/\a.get N=.loop .ready bU O A [w] d x B1/\Xc ac n x fr (a.set N (.loop .busy bU O A [w] d x B1)) λj _ b=>j=.none/\b.get N=.loop .busy bU O A [w] d x B1/\h (.bool true) (b.set N (.loop .ready .none O A [w] d x B1))):Xf ac (n+1) (.yield N) [Y] B h:=by simp only[Xf,fC,U,ahJ,bg];refine Xc.mono (aeE _) ?_ c;rintro j fr a⟨rfl,h1,h2⟩;simp only[h1];refine Xc.mono (aeE _) ?_ h2;grind
theorem Xc.rangeFunc(h:Xf ac n (gv A a) [.yield (B.new (.deferred false)).next] ((B.new (.deferred false)).new (.loop .ready .none 0 A J d x B.next)) λ_ g=>∃st bU fn b c e f i,st≠pW.busy/\g.get (B.new (.deferred false)).next=.loop st bU fn b c e f i/\C bU ⟨A,B.next::s,none⟩ (g.set (B.new (.deferred false)).next (.loop .exhausted bU fn b c e f i))):Xc ac (n+1) (.rangeFunc a J d x) ⟨A,s,none⟩ B C:=by refine Xf.mono (aeE _) ?_ h;grind
end
end
section
variable[Ov]
section
variable{ac:Nat->aX}
theorem JT:∀{l m:List Int},l.Nodup->(∀x∈l,x∈m)->l.length<=m.length
 |[],_,_,_=>by simp
 |a::l,m,b,hs=>by
  rw[ahT]at b;have g:a∈m:=hs a (acj ..);have f:=JT (l:=l) (m:=m.erase a) b.2 λx d=>by have c:x≠a:=λe=>b.1 (e▸d);exact(List.mem_erase_of_ne c).2 (hs x (ab8 _ d))
  grind
theorem Su(h:gv A a=.int 3 v):aH (.buildSlice 3 1 [.int 3 (.ofNat 0)] [(0,1,a)]) A B=some (.slice B.next 0 1 1 true,B.new (.cells (cr [.int 3 v]) 1 3 true [] 0)):=by
 have h1:lE A (dZ [AV.int 3 (.ofNat 0)] 1) [(0,1,a)]=some [.int 3 v]:=by simp only[lE,h];rfl
 simp only[aH,h1];rfl
theorem JU(h:gv A a=Y)(h1:Y.cells=[Y])(h2:Y.cY=true):aH (.box n a) A B=some (.aD B.next 0,B.new (.cells (cr [Y]) 1 n true [] 0)):=by simp[h,h1,h2,aH,cU,Bool.and_true,bg,ahJ]
structure qB(A:ai)(bv:AV)(B1 B2 D L:ah)(e1 e2:Nat)(envA:az AV)(lo:Nat)(l:List Int)(H1:ai):Prop where
 nx:lo<H1.next.ap
 ma:∀j:ah,j.ap<A.next.ap->H1.get j=A.get j
 b1:H1.get B1=.cells (cr [bv]) 1 e1 true [] 0
 b2:∃c2 sv,H1.get B2=.cells c2 1 e2 true [] 0/\c2.br .ai8 0=sv/\qA H1 lo l sv
 dd:H1.get D=.deferred false
 ll:H1.get L=.loop .ready .none 0 envA [sl 7] tc tf D
 o1:A.next.ap<=B1.ap
 o2:B1.ap<B2.ap
 o3:B2.ap<D.ap
 o4:D.ap<L.ap
 o5:L.ap<=lo
theorem qB.AT(J:qB B Y w B1 pm N O V A n E H){I:ah}(h1:N.ap<I.ap)(h2:I.ap<=n)(a:bR):qB B Y w B1 pm N O V A n E (H.set I a):=by
 have o1:=J.o1;have o2:=J.o2;have o3:=J.o3;have o4:=J.o4;have⟨c2,b,c,d,e⟩:=J.b2;refine⟨J.nx,λj hj=>?_,?_,⟨c2,b,?_,d,?_⟩,?_,?_,J.o1,J.o2,J.o3,J.o4,J.o5⟩;·rw[ai.aG,an (bW aa)];exact J.ma j hj
 .rw[ai.aG,an (bW aa)];exact J.b1
 .rw[ai.aG,an (bW aa)];exact c
 .refine e.frame (aeE _) λj h3 f=>?_;rw[ai.aG,an (bW aa)]
 .rw[ai.aG,an (bW aa)];exact J.dd
 rw[ai.aG,an (bW aa)];exact J.ll
theorem Sv{lo:Nat}(J:qB H Y pm N B1 w V O A lo l B)(y:A.get .ai8 (sl 2)=.aD N 0)(hl:l.length<1000){k:Int}(z:∀p:ai,qB H Y pm N B1 w V O A lo (l++[k]) p->(∀j:ah,w.ap<j.ap->j.ap<=lo->p.get j=B.get j)->h (.bool true) p):Xf ac 40 (.yield w) [.int 3 k] B h:=by
 have o1:=J.o1;have o2:=J.o2;have o3:=J.o3;have o4:=J.o4;have o5:=J.o5;have M:=J.nx;have⟨c2,g,b1,b2,C⟩:=J.b2;refine Xf.yield (n:=39) J.ll (Xc.region (n:=38) (Xo.op (n:=37) (v:=.int 3 k) (H':=B) (by simp[aH,gv,az.aG]) (Xo.nil (n:=36) ⟨rfl,J.ll,?_⟩)));generalize f:B.set w (.loop .busy .none 0 A [sl 7] tc tf B1)=b;have i:∀j:ah,j≠w->b.get j=B.get j:=λj hj=>by rw[<-f,ai.aG,an hj]
 have D:b.get w=.loop .busy .none 0 A [sl 7] tc tf B1:=by rw[<-f,ai.aG,aF rfl]
 have nb:b.next=B.next:=by rw[<-f];rfl
 have r:aY b N 0=some g:=by unfold aY;rw[i N (bW aa),b1];simp only[show ahO 0 1=true from rfl,bg,b2]
 generalize d:b.new (.cells (cr [.int 3 k]) 1 3 true [] 0)=m;have n:∀j:ah,j≠b.next->m.get j=b.get j:=λj hj=>by rw[<-d,ai.cL,an hj]
 have P:m.next.ap=B.next.ap+1:=by rw[<-d];show b.next.succ.ap=_;rw[ah.eP,nb]
 have s:qA m lo l g:=C.frame aa λj h1 h2=>by rw[n j (bW (by rw[nb];omega)),i j (bW aa)]
 refine Xo.op (n:=36) (v:=g) (H':=b) (iq (by simp[gv,aQ,az.aG,bE];exact y) r) ?_;refine Xo.op (n:=35) (v:=.int 3 k) (H':=b) (by simp[aH,gv,aQ,az.aG,bE]) ?_;refine Xo.op (n:=34) (v:=.slice b.next 0 1 1 true) (H':=m) (by rw[<-d];exact Su (by simp[gv,aQ,az.aG,bE])) ?_;generalize q:aQ (aQ (aQ (aQ (az.set .ai8 (sl 7) (.int 3 k) A) (some (sl 5)) (.int 3 k)) (some (sl 8)) g) (some (sl 9)) (.int 3 k)) (some (sl 10)) (.slice b.next 0 1 1 true)=E;have F:gv E (tt 8)=g:=by rw[<-q];simp[gv,aQ,az.aG,bE]
 have t:gv E (tt 10)=.slice b.next 0 1 1 true:=by rw[<-q];simp[gv,aQ,az.aG,bE]
 have G:E.get .ai8 (sl 2)=.aD N 0:=by rw[<-q];simp[aQ,az.aG,bE];exact y
 have⟨a,H',I,Q,a3,a4⟩:=St (lo:=lo) (l:=l) (k:=k) F t (by rw[<-d,ai.cL,aF rfl]) s aa hl;refine Xo.op (n:=33) (v:=a) (H':=H') I ?_;have u:H'.get N=.cells c2 1 O true [] 0:=by rw[a3 N aa,n N (bW (by rw[nb];omega)),i N (bW aa)];exact b1
 have e:([a]:List AV)=a.cells/\cU [a]=true:=by
  rcases a4 with⟨R,_⟩|⟨id,c,aK,R,_⟩;·simp at R
  subst R;exact⟨rfl,rfl⟩
 have v:gF H' N 0 [a]=some (H'.set N (.cells (ez c2 0 [a]) 1 O true [] 0)):=by unfold gF;rw[u];simp only[aeE,decide_true,ahJ,ahw,aiU,e.2,bg];rfl
 refine Xo.op (n:=32) (v:=.ai8) (H':=H'.set N (.cells (ez c2 0 [a]) 1 O true [] 0)) ?_ (Xo.nil (n:=31) ?_)
 .have L:gv (aQ E (some (sl 11)) a) (tt 2)=.aD N 0:=by simp[gv,aQ,az.aG,bE];exact G
  have x:gv (aQ E (some (sl 11)) a) (tt 11)=a:=by simp[gv,aQ,az.aG,bE]
  simp only[aH,L,x,<-e.1,ahJ,bg,v]
 have o:∀j:ah,j.ap<=lo->j≠w->j≠N->((H'.set N (.cells (ez c2 0 [a]) 1 O true [] 0)).set w (.loop .ready .none 0 A [sl 7] tc tf B1)).get j=B.get j:=λj h1 h2 h3=>by rw[ai.aG,an h2,ai.aG,an h3,a3 j h1,n j (bW (by rw[nb];omega)),i j h2]
 refine⟨rfl,?_,z _ ⟨?_,λj hj=>?_,?_,⟨ez c2 0 [a],a,?_,?_,?_⟩,?_,?_,o1,o2,o3,o4,o5⟩ λj h1 h2=>?_⟩;·rw[ai.aG,an (bW aa),a3 w aa,n w (bW (by rw[nb];omega))];exact D
 .show lo<H'.next.ap;omega
 .rw[o j aa (bW aa) (bW aa)];exact J.ma j hj
 .rw[o pm aa (bW aa) (bW aa)];exact J.b1
 .rw[ai.aG,an (bW aa),ai.aG,aF rfl]
 .rw[lg];simp
 .refine a4.frame (aeE _) λj h1 h2=>?_;rw[ai.aG,an (bW aa),ai.aG,an (bW aa)]
 .rw[o B1 aa (bW aa) (bW aa)];exact J.dd
 .rw[ai.aG,aF rfl]
 exact o j aa (bW aa) (bW aa)
end
section
variable{ac:Nat->aX}
theorem JV:∀{es:List aV}{ks:List Int},iB es=some ks->ks.Nodup->∀{x y:aV}{k:Int},x∈es->y∈es->x.key=.int 3 k->y.key=.int 3 k->x=y
 |[],_,_,_,_,_,_,h,_,_,_=>by grind
 |a::es,ks,h,d,x,y,k,f,g,e1,e2=>by
  simp only[iB]at h;split at h
  .rename_i i l h1 h2;injection h with h;subst h;rw[ahT]at d;have e:∀z∈es,z.key=.int 3 i->False:=λz j he=>by have⟨m,c,b⟩:=(xj h2).1 z j;rw[he]at b;injection b with _ b;exact d.1 (b▸c)
   rcases ac2.1 f with c|c<;>rcases ac2.1 g with b|b;·rw[c,b]
   .subst c;rw[h1]at e1;injection e1 with _ e1;subst e1;exact(e y b e2).elim
   .subst b;rw[h1]at e2;injection e2 with _ e2;subst e2;exact(e x c e1).elim
   exact JV h2 d.2 c b e1 e2
  grind
theorem Xf.Sw{args a:List AV}{c:List gO}(i:ac V=.code O c d)(hl:(f++args++a).length<=O)(k:Xc ac n d ⟨jL (f++args++a) .xH .ch,[],none⟩ B λj fr e=>(match j with|.exit _=>False|_=>True)/\∃b l,iI e fr.bA=some b/\fH fr.af b c=some l/\h (gC l) b):Xf ac (n+1) (.func V f a) args B h:=by simp only[Xf,fC,i];rw[aF (ahV hl)];refine Xc.mono (aeE _) ?_ k;rintro j fr e⟨h1,b,l,h2,h3,g⟩;cases j with|exit=>exact h1.elim|none=>simp only[h2,h3];exact g|ret=>simp only[h2,h3];exact g
theorem JW(a b:AV):jL ([]++[a]++[b]) .xH .ch=(az.ch.set AV.ai8 (sl 0) a).set .ai8 (sl 1) b:=rfl
def tg(ac:Nat->aX)(n a:Nat)(bv:AV)(A:ai)(ks:List Int):Prop:=
 ∀{B1 B2 D L:ah}{e1 e2:Nat}{envA:az AV}{H1:ai}{K:KT},qB A bv B1 B2 D L e1 e2 envA L.ap [] H1->H1.next=L.succ->envA.get .ai8 (sl 2)=.aD B2 0->
  (∀lo l b,qB A bv B1 B2 D L e1 e2 envA lo l b->l.Perm ks->K (.tuple []) b)->Xf ac n (.func a [] [.aD B1 0]) [.yield L] H1 K
theorem Sx(hf:ac V=.code 14 [] ET){m:ah}{A:ai}(X:A.get m=.map r O)(u:m.ap<A.next.ap)(hb:(r.map (·.born)).Nodup)(P:∀e∈r,e.born<O)(H:iB r=some E)(Y:E.Nodup)(ag:E.length<=1000):tg ac (r.length+100) V (.map m) A E:=by
 intro B1 B2 D L e1 e2 envA c K J Q hA hK;have o1:=J.o1;have o2:=J.o2;have o3:=J.o3;have o4:=J.o4;have hI:c.next.ap=L.ap+1:=by rw[Q,ah.eP]
 refine Xf.code (n:=r.length+99) hf aC ?_;rw[JW];generalize Z:(az.ch.set AV.ai8 (sl 0) (.yield L)).set .ai8 (sl 1) (.aD B1 0)=af;have h0:af.get .ai8 (sl 0)=.yield L:=by rw[<-Z];simp[az.aG,bE]
 have h1:af.get .ai8 (sl 1)=.aD B1 0:=by rw[<-Z];simp[az.aG,bE]
 have gm:c.get m=.map r O:=by rw[J.ma m u];exact X
 have R:aY c B1 0=some (.map m):=by unfold aY;rw[J.b1];simp only[show ahO 0 1=true from rfl,bg];rw[nN _ _ aC];rfl
 refine Xc.hZ (n:=20) (m:=60+15+r.length) (k:=r.length+98) aa aa (Xc.region (n:=19) (Xo.op (n:=18) (v:=.map m) (H':=c) (iq h1 R) (Xo.op (n:=17) (v:=.aD c.next 0) (H':=c.new (.mapIter (some m) O [] O)) (by simp[aH,gv,aQ,az.aG,gm]) (Xo.nil (n:=16) ?_))));have J1:qB A (.map m) B1 B2 D L e1 e2 envA c.next.ap [] (c.new (.mapIter (some m) O [] O)):=by
  have q:∀j:ah,j.ap<=L.ap->(c.new (.mapIter (some m) O [] O)).get j=c.get j:=λj hj=>by rw[ai.cL,an (bW aa)]
  have⟨c2,sv,b1,b2,b3⟩:=J.b2;refine⟨by show _<c.next.succ.ap;rw[ah.eP];omega,λj hj=>by rw[q j aa];exact J.ma j hj,by rw[q B1 aa];exact J.b1,⟨c2,sv,by rw[q B2 aa];exact b1,b2,?_⟩,by rw[q D aa];exact J.dd,by rw[q L aa];exact J.ll,o1,o2,o3,o4,aa⟩;rcases b3 with h|⟨_,_,_,_,h,_⟩;·exact .inl h
  exact absurd rfl h
 refine Jl bt bt bt bt bt hb P (id:=c.next) (m:=m) (I:=λseen af g=>af.get .ai8 (sl 0)=.yield L/\af.get .ai8 (sl 5)=.aD c.next 0/\g.get c.next=.mapIter (some m) O seen O/\∃l,qB A (.map m) B1 B2 D L e1 e2 envA c.next.ap l g/\l.Nodup/\(∀k∈l,k∈E/\∃e∈r,e.born∈seen/\e.key=.int 3 k)/\∀e∈r,e.born∈seen->∃k∈l,e.key=.int 3 k) ?_ 60 ?_ ?_ r.length [] _ _ ?_ (List.length_filter_le ..);·rintro seen af g⟨B,C,I,l,s,_⟩;exact⟨C,I,by rw[s.ma m u];exact X⟩
 .rintro seen af g e⟨B,C,I,l,s,F,t,M⟩he v;have⟨p,w,d⟩:=(xj H).1 e he;have i:p∉l:=λh=>by have⟨G,n,f,a3⟩:=(t p h).2;rw[JV H Y he n d a3]at v;exact v f
  have z:l.length<1000:=by
   have S:(l++[p]).Nodup:=by rw[ahZ];exact⟨F,aC,λa N b hb=>by simp only[abt]at hb;subst hb;exact λe=>i (e▸N)⟩
   have:=JT S (m:=E) λx hx=>by
    rcases ac6.1 hx with h|h;·exact(t x h).1
    rw[abt]at h;rw[h];exact w
   simp at this;omega
  refine Xc.hZ (n:=50) (m:=50) (k:=59) aa aa (Xc.region (n:=49) ?_);refine Xo.op (n:=48) (v:=.yield L) (H':=g.set c.next (.mapIter (some m) O (seen++[e.born]) O)) (by simp[aH,gv,az.aG,bE];exact B) ?_;refine Xo.op (n:=47) (v:=.int 3 p) (H':=g.set c.next (.mapIter (some m) O (seen++[e.born]) O)) (by simp[aH,gv,aQ,az.aG,bE];exact d) ?_;refine Xo.call (n:=46) ?_;simp only[gv,aQ,az.aG,bE,ahk,aiz];refine Xf.mono (n:=40) aa (λ_ _ h=>h) (Sv (s.AT (I:=c.next) aa (aeE _) _) hA z λH3 J3 o=>Xo.op (n:=45) (v:=.bool false) (H':=H3) (by simp[aH,gv,aQ,az.aG,bE,AL]) (Xo.nil (n:=44) (Xc.lJ (n:=49) (by simp[gv,aQ,az.aG,bE]) (Xc.skip (n:=48) ⟨rfl,rfl,rfl,?_,?_,?_,l++[p],J3,?_,?_,?_⟩))));·simp[aQ,az.aG,bE];exact B
  .simp[aQ,az.aG,bE];exact C
  .rw[o c.next aa (aeE _),ai.aG,aF rfl]
  .rw[ahZ];exact⟨F,aC,λa N b hb=>by simp only[abt]at hb;subst hb;exact λe=>i (e▸N)⟩
  .intro k T;rcases ac6.1 T with h|h;·obtain⟨a0,G,n,f,a3⟩:=t k h;exact⟨a0,G,n,ahj _ f,a3⟩
   rw[abt]at h;subst h;exact⟨w,e,he,ahu _ (abt.2 rfl),d⟩
  intro G y W;rcases ac6.1 W with h|h;·obtain⟨k',n,f⟩:=M G y h;exact⟨k',ahj _ n,f⟩
  rw[abt]at h;rw[EG hb y he h];exact⟨p,ahu _ (abt.2 rfl),d⟩
 .rintro seen af g⟨B,C,I,l,s,F,t,M⟩eC;refine⟨trivial,rfl,[],rfl,hK _ l g s ((List.perm_ext_iff_of_nodup F Y).2 λx=>⟨λh=>(t x h).1,λh=>?_⟩)⟩;have⟨e,he,d⟩:=(xj H).2 x h;have⟨k',n,f⟩:=M e he (eC e he);rw[d]at f;injection f with _ f;rw[f];exact n
 exact⟨by simp[aQ,az.aG,bE];exact h0,by simp[aQ,az.aG,bE],by rw[ai.cL,aF rfl],[],J1,aiP,aC,aC⟩
theorem Sy(f:ac O=.code 14 [] ET):tg ac 100 O .cP B []:=by
 intro B1 B2 D L e1 e2 envA a K J d n g;have o1:=J.o1;have o2:=J.o2;have o3:=J.o3;have o4:=J.o4;have o:a.next.ap=L.ap+1:=by rw[d,ah.eP]
 refine Xf.code (n:=99) f aC ?_;rw[JW];generalize i:(az.ch.set AV.ai8 (sl 0) (.yield L)).set .ai8 (sl 1) (.aD B1 0)=af;have h1:af.get .ai8 (sl 1)=.aD B1 0:=by rw[<-i];simp[az.aG,bE]
 have e:aY a B1 0=some .cP:=by unfold aY;rw[J.b1];simp only[show ahO 0 1=true from rfl,bg];rw[nN _ _ aC];rfl
 refine Xc.hZ (n:=90) (m:=90) (k:=98) aC aC (Xc.region (n:=89) (Xo.op (n:=88) (v:=.cP) (H':=a) (iq h1 e) (Xo.op (n:=87) (v:=.aD a.next 0) (H':=a.new (.mapIter none 0 [] 0)) (by rfl) (Xo.nil (n:=86) ?_))));have k:qB B .cP B1 B2 D L e1 e2 envA L.ap [] (a.new (.mapIter none 0 [] 0)):=by
  have b:∀j:ah,j.ap<=L.ap->(a.new (.mapIter none 0 [] 0)).get j=a.get j:=λj hj=>by rw[ai.cL,an (bW aa)]
  have⟨c2,l,b1,b2,m⟩:=J.b2;refine⟨by show _<a.next.succ.ap;rw[ah.eP];omega,λj hj=>by rw[b j aa];exact J.ma j hj,by rw[b B1 aa];exact J.b1,⟨c2,l,by rw[b B2 aa];exact b1,b2,?_⟩,by rw[b D aa];exact J.dd,by rw[b L aa];exact J.ll,o1,o2,o3,o4,aeE _⟩;rcases m with h|⟨_,_,_,_,h,_⟩;·exact .inl h
  exact absurd rfl h
 refine Xc.block (n:=89) (Xc.loop (n:=88) (Xc.seq (n:=87) (Xc.region (n:=86) (Xo.next (n:=85) (cs:=[none]) (aft:=λ_=>(.tuple [.bool false],a.new (.mapIter none 0 [] 0))) ?_ ?_))));·simp[gv,aQ,az.aG,rm,ai.cL]
 intro c _;exact Xo.op (n:=84) (v:=.bool false) (H':=a.new (.mapIter none 0 [] 0)) (by rfl) (Xo.nil (n:=83) ⟨trivial,rfl,[],rfl,g _ [] _ k (ai3 _)⟩)
theorem Sz(v:ac V=.code 13 [.tmp (sl 4)] (xu e2))(q:tg ac n O Y H E)(w:B.get B1=.cells (cr [Y]) 1 e1 true [] 0)(x:H.next.ap<=B1.ap)(r:B1.ap<B.next.ap)(s:∀j:ah,j.ap<H.next.ap->B.get j=H.get j)(y:∀e c lo l,H.next.ap<=lo/\lo<c.next.ap->qA c lo l e->l.Perm E->(∀j:ah,j.ap<H.next.ap->c.get j=H.get j)->h e c):Xf ac (n+40) (.func V [] []) [.bj,.func O [] [.aD B1 0]] B h:=by
 refine Xf.Sw (n:=n+39) v aC ?_;show Xc ac (n+39) (xu e2) ⟨(az.ch.set .ai8 (sl 0) .bj).set .ai8 (sl 1) (.func O [] [.aD B1 0]),[],none⟩ B _;generalize f:(az.ch.set AV.ai8 (sl 0) .bj).set .ai8 (sl 1) (.func O [] [.aD B1 0])=af;have h0:af.get .ai8 (sl 0)=.bj:=by rw[<-f];simp[az.aG,bE]
 have h1:af.get .ai8 (sl 1)=.func O [] [.aD B1 0]:=by rw[<-f];simp[az.aG,bE]
 refine Xc.hZ (n:=20) (m:=n+37) (k:=n+38) aa aa (Xc.region (n:=19) (Xo.op (n:=18) (v:=.aD B.next 0) (H':=B.new (.cells (cr [.bj]) 1 e2 true [] 0)) (JU h0 rfl rfl) (Xo.op (n:=17) (v:=.bj) (H':=B.new (.cells (cr [.bj]) 1 e2 true [] 0)) (by simp[aH,gv]) (Xo.nil (n:=16) ?_))));generalize i:B.new (.cells (cr [.bj]) 1 e2 true [] 0)=a;have z:a.next=B.next.succ:=by rw[<-i];rfl
 have o:∀j,a.get j=if j=B.next then .cells (cr [.bj]) 1 e2 true [] 0 else B.get j:=λj=>by rw[<-i,ai.cL]
 generalize f:aQ (aQ af (some (sl 2)) (.aD B.next 0)) (some (sl 4)) .bj=d;have A:d.get .ai8 (sl 1)=.func O [] [.aD B1 0]:=by rw[<-f];simp[aQ,az.aG,bE];exact h1
 have C:d.get .ai8 (sl 2)=.aD B.next 0:=by rw[<-f];simp[aQ,az.aG,bE]
 refine Xc.hZ (n:=n+30) (m:=20) (k:=n+36) aa aa (Xc.hZ (n:=20) (m:=n+20) (k:=n+29) aa aa (Xc.region (n:=19) ?_));refine Xo.op (n:=18) (v:=.func O [] [.aD B1 0]) (H':=a) (by simp[aH,gv];exact A) (Xo.nil (n:=17) ?_);generalize f:aQ d (some (sl 6)) (.func O [] [.aD B1 0])=b;have t:b.get .ai8 (sl 2)=.aD B.next 0:=by rw[<-f];simp[aQ,az.aG,bE];exact C
 have D:gv b (tt 6)=.func O [] [.aD B1 0]:=by rw[<-f];simp[gv,aQ,az.aG]
 refine Xc.block (n:=n+19) (Xc.mono (n:=n+1) aa (λ_ _ _ N=>N) (Xc.rangeFunc (n:=n) ?_));rw[D];have nd:(a.new (.deferred false)).next=a.next.succ:=rfl;have F:a.next.ap=B.next.ap+1:=by rw[z,ah.eP]
 have M:(a.new (.deferred false)).next.ap=B.next.ap+2:=by rw[nd,ah.eP,F]
 have g:∀j,((a.new (.deferred false)).new (.loop .ready .none 0 b [sl 7] tc tf a.next)).get j=if j=(a.new (.deferred false)).next then .loop .ready .none 0 b [sl 7] tc tf a.next else if j=a.next then .deferred false else a.get j:=λj=>by rw[ai.cL,ai.cL]
 refine q (B1:=B1) (B2:=B.next) (D:=a.next) (L:=(a.new (.deferred false)).next) (e1:=e1) (e2:=e2) (envA:=b) ?_ rfl t ?_
 .refine⟨by show _<(a.new (.deferred false)).next.succ.ap;rw[ah.eP];omega,λj hj=>?_,?_,⟨cr [.bj],.bj,?_,?_,.inl ⟨rfl,rfl⟩⟩,?_,?_,x,r,aa,aa,aeE _⟩;·rw[g,an (bW aa),an (bW aa),o,an (bW aa)];exact s j hj
  .rw[g,an (bW aa),an (bW aa),o,an (bW aa)];exact w
  .rw[g,an (bW aa),an (bW aa),o,aF rfl]
  .rw[nN _ _ aC];rfl
  .rw[g,an (bW aa),aF rfl]
  rw[g,aF rfl]
 intro lo l p J G;have o5:=J.o5;refine⟨_,_,_,_,_,_,_,_,aC,J.ll,?_⟩;have⟨c2,e,b1,b2,I⟩:=J.b2;generalize k:p.set (a.new (.deferred false)).next (.loop .exhausted .none 0 b [sl 7] tc tf a.next)=c;have m:∀j,j≠(a.new (.deferred false)).next->c.get j=p.get j:=λj hj=>by rw[<-k,ai.aG,an hj]
 have u:c.next=p.next:=by rw[<-k];rfl
 have L:aY c B.next 0=some e:=by unfold aY;rw[m _ (bW aa),b1];simp only[show ahO 0 1=true from rfl,bg,b2]
 refine Xc.hZ (n:=18) (m:=18) (k:=19) aa aa (Xc.region (n:=17) ?_);refine Xo.op (n:=16) (v:=e) (H':=c) (iq (by simp[gv];exact t) L) ?_;refine Xo.op (n:=15) (v:=e) (H':=c) (by simp[aH,gv,aQ,az.aG]) (Xo.nil (n:=14) (Xc.ret (n:=17) ⟨trivial,c.set a.next (.deferred true),[e],?_,?_,?_⟩));·simp only[iI,m a.next (bW aa),J.dd]
 .simp[fH,aQ,az.aG]
 refine y e _ lo l ⟨aa,by show lo<c.next.ap;rw[u];exact J.nx⟩ ?_ G λj hj=>?_;·refine I.frame (by show _<=c.next.ap;rw[u];exact aeE _) λj h1 h2=>?_;rw[ai.aG,an (bW aa),m j (bW aa)]
 rw[ai.aG,an (bW aa),m j (bW aa)];exact J.ma j hj
end
section
variable{ac:Nat->aX}
theorem Xf.ji{g:List AV->ai->Option (AV×ai)}{args a:List AV}{v:AV}(b:ac n=.ji g)(hg:g (f++args++a) B=some (v,H'))(c:h v H'):Xf ac (O+1) (.func n f a) args B h:=by simp_all[Xf,fC]
theorem SA(f:ac V=.code 5 [.tmp (sl 2)] (BH u))(g:ac u=.code 13 [.tmp (sl 4)] (xu z))(c:tg ac n O Y B E)(i:H.get N=.cells (cr [Y]) 1 e1 true [] 0)(k:B.next.ap<=N.ap)(d:N.ap<H.next.ap)(e:∀j:ah,j.ap<B.next.ap->H.get j=B.get j)(m:∀b a lo l,B.next.ap<=lo/\lo<a.next.ap->qA a lo l b->l.Perm E->(∀j:ah,j.ap<B.next.ap->a.get j=B.get j)->h b a):Xf ac (n+60) (.func V [] []) [.func O [] [.aD N 0]] H h:=by
 refine Xf.code (n:=n+59) f aC ?_;rw[show jL ([]++[AV.func O [] [.aD N 0]]++[]) .xH .ch=az.ch.set AV.ai8 (sl 0) (.func O [] [.aD N 0])from rfl];generalize o:az.ch.set AV.ai8 (sl 0) (.func O [] [.aD N 0])=af;have h0:af.get .ai8 (sl 0)=.func O [] [.aD N 0]:=by rw[<-o];simp[az.aG]
 exact Xc.hZ (n:=20) (m:=n+57) (k:=n+58) aC aC (Xc.region (n:=19) (Xo.op (n:=18) (v:=.bj) (H':=H) (by rfl) (Xo.nil (n:=17) (Xc.hZ (n:=n+50) (m:=10) (k:=n+56) aC aC (Xc.region (n:=n+49) (Xo.op (n:=n+48) (v:=.func O [] [.aD N 0]) (H':=H) (by simp[h0,aH,gv,aQ,az.aG,bE]) (Xo.call (n:=n+47) (Xf.mono (n:=n+40) aC (λ_ _ t=>t) (Sz g c i k d e λb a lo l p q r s=>Xo.op (n:=n+46) (v:=b) (H':=a) (by rfl) (Xo.nil (n:=n+45) (Xc.ret (n:=9) ⟨trivial,rfl,[b],by rfl,m b a lo l p q r s⟩)))))))))))
theorem JX{c:az AV}:∀{l:List Int}{o:Nat},(∀i(h:i<l.length),c.br .ai8 (o+i)=.int 3 (l[i]))->uF c o l.length=some l
 |[],_,_=>rfl
 |z::l,o,h=>by
  have h0:c.br .ai8 o=.int 3 z:=h 0 aC;have a:=JX (c:=c) (l:=l) (o:=o+1) λi hi=>by have:=h (i+1) (by simpa using hi);rw[show o+(i+1)=o+1+i by omega]at this;exact this
  simp[h0,a,ahK,uF]
def BI(H:ai)(lo:Nat)(ks:List Int)(v:AV):Prop:=
 (ks=[]/\v=.bj)\/∃id,v=.slice id 0 ks.length ks.length false/\ks≠ []/\lo<=id.ap/\H.get id=.cells (cr ((eL ks).map λz=>.int 3 z)) ks.length 3 true [] 0
theorem SB(hs:ac V=.ji tb)(h1:H.next.ap<=n/\n<B.next.ap)(h2:qA B n l Y)(h3:l.Perm E)(u:E.length<=1000)(g:∀j:ah,j.ap<H.next.ap->B.get j=H.get j)(k:∀b,BI b H.next.ap E Y->(∀j:ah,j.ap<H.next.ap->b.get j=H.get j)->((∀id o O c e,Y=.slice id o O c e->id.ap<b.next.ap)/\H.next.ap<=b.next.ap)->h (.tuple []) b):Xf ac (O+1) (.func V [] []) [Y] B h:=by
 have a:=h3.length_eq;rcases h2 with⟨rfl,rfl⟩|⟨id,c,aK,rfl,m,v,p,q,r,s⟩;·refine Xf.ji hs (H':=B) (v:=.tuple []) rfl (k B (.inl ⟨List.nil_perm.1 h3,rfl⟩) g ⟨λ_ _ _ _ _ w=>(by cases w),aa⟩)
 have d:0<l.length:=by cases l with|nil=>exact absurd rfl m|cons _ _=>simp
 have f:eL l=eL E:=BG (xp l) (xp E) ((ta l).trans (h3.trans (ta E).symm));have hg:tb [.slice id 0 l.length l.length false] B=some (.tuple [],(B.eI aK).set id (.cells (cr ((eL l).map λz=>.int 3 z)) l.length 3 true [] 0)):=by
  have t:(ahr l.length l.length&&ahO 0 l.length&&aih l.length 4000000)=true:=by rw[ait,show ahO 0 l.length=true from ai5 aib d,ahV aa];rfl
  simp only[tb,q,t,bg,JX (l:=l) (o:=0) λi hi=>by rw[ahw];exact r i hi]
 refine Xf.ji hs hg (k _ (.inr ⟨id,by rw[a],λe=>?_,aa,?_⟩) (λj hj=>?_) ⟨λ_ _ _ _ _ w=>(by injection w with w;subst w;rw[ai.eK,ai.iL];exact p),by rw[ai.eK,ai.iL];omega⟩);·rw[e]at a;simp at a;exact m (by simpa using a)
 .rw[ai.aG,aF rfl,f,a]
 rw[ai.aG,an (bW aa),ai.uk,an λw=>by have:=s j w;omega];exact g j hj
theorem SC(hd:ac V=.code 9 [.tmp (sl 2)] (ER z u))(hs:ac u=.ji tb)(m:ac z=.code 5 [.tmp (sl 2)] (BH nt))(p:ac nt=.code 13 [.tmp (sl 4)] (xu e2))(d:E.length<=1000)(f:tg ac n O Y B E)(q:A1.get B1=.cells (cr [Y]) 1 e1 true [] 0)(r:B.next.ap<=B1.ap)(g:B1.ap<A1.next.ap)(i:∀j:ah,j.ap<B.next.ap->A1.get j=B.get j)(s:∀v a,BI a B.next.ap E v->(∀j:ah,j.ap<B.next.ap->a.get j=B.get j)->((∀id o n c e,v=.slice id o n c e->id.ap<a.next.ap)/\B.next.ap<=a.next.ap)->h v a):Xf ac (n+90) (.func V [] []) [.func O [] [.aD B1 0]] A1 h:=by
 refine Xf.code (n:=n+89) hd aC ?_;rw[show jL ([]++[AV.func O [] [.aD B1 0]]++[]) .xH .ch=az.ch.set AV.ai8 (sl 0) (.func O [] [.aD B1 0])from rfl];generalize t:az.ch.set AV.ai8 (sl 0) (.func O [] [.aD B1 0])=af;have h0:af.get .ai8 (sl 0)=.func O [] [.aD B1 0]:=by rw[<-t];simp[az.aG]
 exact Xc.hZ (n:=20) (m:=n+87) (k:=n+88) aC aC (Xc.region (n:=19) (Xo.op (n:=18) (v:=.bj) (H':=A1) (by rfl) (Xo.nil (n:=17) (Xc.hZ (n:=n+70) (m:=n+80) (k:=n+86) aC aC (Xc.region (n:=n+69) (Xo.op (n:=n+68) (v:=.func O [] [.aD B1 0]) (H':=A1) (by simp[h0,aH,gv,aQ,az.aG,bE]) (Xo.call (n:=n+67) (Xf.mono (n:=n+60) aC (λ_ _ G=>G) (SA m p f q r g i λb k lo l w x y A=>Xo.op (n:=n+66) (v:=b) (H':=k) (by rfl) (Xo.nil (n:=n+65) (Xc.hZ (n:=20) (m:=20) (k:=n+79) aC aC (Xc.region (n:=19) (Xo.op (n:=18) (v:=b) (H':=k) (by rfl) (Xo.call (n:=17) (SB hs w x y d A λa C D F=>Xc.hZ (n:=10) (m:=10) (k:=19) aC aC (Xc.region (n:=9) (Xo.op (n:=8) (v:=b) (H':=a) (by rfl) (Xo.op (n:=7) (v:=b) (H':=a) (by rfl) (Xo.nil (n:=6) (Xc.ret (n:=9) ⟨trivial,rfl,[b],by rfl,s b a C D F⟩))))))))))))))))))))
theorem SD(b:ac u=.code 4 [.tmp (sl 2)] (ES V O))(hb:Y.cells=[Y])(a:Y.cY=true)(c:h (.func V [] [.aD B.next 0]) (B.new (.cells (cr [Y]) 1 O true [] 0))):Xf ac 40 (.func u [] []) [Y] B h:=by
 refine Xf.code (n:=39) b aC ?_;rw[show jL ([]++[Y]++[]) .xH .ch=az.ch.set AV.ai8 (sl 0) Y from rfl];generalize d:az.ch.set AV.ai8 (sl 0) Y=af;have h0:af.get .ai8 (sl 0)=Y:=by rw[<-d];simp[az.aG]
 exact Xc.hZ (n:=20) (m:=30) (k:=38) aC aC (Xc.region (n:=19) (Xo.op (n:=18) (v:=.aD B.next 0) (H':=B.new (.cells (cr [Y]) 1 O true [] 0)) (JU h0 hb a) (Xo.op (n:=17) (v:=.nilFunc) (H':=B.new (.cells (cr [Y]) 1 O true [] 0)) (by rfl) (Xo.nil (n:=16) (Xc.hZ (n:=20) (m:=20) (k:=29) aC aC (Xc.region (n:=19) (Xo.op (n:=18) (v:=.func V [] [.aD B.next 0]) (H':=B.new (.cells (cr [Y]) 1 O true [] 0)) (by rfl) (Xo.op (n:=17) (v:=.func V [] [.aD B.next 0]) (H':=B.new (.cells (cr [Y]) 1 O true [] 0)) (by rfl) (Xo.nil (n:=16) (Xc.ret (n:=19) ⟨trivial,rfl,[.func V [] [.aD B.next 0]],by rfl,c⟩))))))))))
theorem SE(hl:ac O=.code 6 [.tmp (sl 2)] (JS V u))(e:ac V=.code 4 [.tmp (sl 2)] (ES kb e1))(hd:ac u=.code 9 [.tmp (sl 2)] (ER nt z))(hs:ac z=.ji tb)(f:ac nt=.code 5 [.tmp (sl 2)] (BH e2))(g:ac e2=.code 13 [.tmp (sl 4)] (xu appF))(hb:Y.cells=[Y])(b:Y.cY=true)(c:E.length<=1000)(d:tg ac n kb Y B E){K:KT}(i:∀v a,BI a B.next.ap E v->(∀j:ah,j.ap<B.next.ap->a.get j=B.get j)->K v a):Xf ac (n+150) (.func O [] []) [Y] B K:=by
 refine Xf.code (n:=n+149) hl aC ?_;rw[show jL ([]++[Y]++[]) .xH .ch=az.ch.set AV.ai8 (sl 0) Y from rfl];generalize k:az.ch.set AV.ai8 (sl 0) Y=af;have h0:af.get .ai8 (sl 0)=Y:=by rw[<-k];simp[az.aG]
 refine Xc.hZ (n:=20) (m:=n+140) (k:=n+148) aa aa (Xc.region (n:=19) (Xo.op (n:=18) (v:=.bj) (H':=B) (by simp[aH,gv]) (Xo.nil (n:=17) (Xc.hZ (n:=n+130) (m:=10) (k:=n+139) aa aa (Xc.region (n:=n+129) ?_)))));refine Xo.op (n:=n+128) (v:=Y) (H':=B) (by simp[aH,gv,aQ,az.aG,bE];exact h0) ?_;refine Xo.call (n:=n+127) (Xf.mono (n:=40) aa (λ_ _ h=>h) (SD e hb b (Xo.call (n:=n+126) ?_)));refine Xf.mono (n:=n+90) aa (λ_ _ h=>h) (SC hd hs f g c d (A1:=B.new (.cells (cr [Y]) 1 e1 true [] 0)) (B1:=B.next) (e1:=e1) (by rw[ai.cL,aF rfl]) (aeE _) (by show _<B.next.succ.ap;rw[ah.eP];omega) (λj hj=>by rw[ai.cL,an (bW aa)]) λv a l m _=>?_);exact Xo.op (n:=n+125) (v:=v) (H':=a) (by simp[aH,gv,aQ,az.aG]) (Xo.nil (n:=n+124) (Xc.ret (n:=9) ⟨trivial,rfl,[v],by simp[fH,aQ,az.aG],i v a l m⟩))
end
theorem ct.eS(h:b9 S b):∀{es:List aV}{f l:List MapEntry},ct S es f->ct b es l->ct S es l|[],_,[],_,_=>by trivial|[],_,_::_,_,k=>by trivial|_::_,[],_,d,_=>by trivial|_::_,_::_,[],_,k=>by trivial|e::es,c0::f,c::l,d,k=>by exact⟨VR.eS h _ _ _ d.1 k.1,VR.eS h _ _ _ d.2.1 k.2.1,k.2.2.1,ct.eS h d.2.2.2 k.2.2.2⟩
theorem cZ.eS(h:b9 S b):∀{es:List aV}{f l:List MapEntry},cZ S es f->cZ b es l->cZ S es l|[],_,[],_,_=>by trivial|[],_,_::_,_,k=>by trivial|_::_,[],_,d,_=>by trivial|_::_,_::_,[],_,k=>by trivial|e::es,c0::f,c::l,d,k=>by exact⟨VR.eS h _ _ _ d.1 k.1,VR.eS h _ _ _ d.2.1 k.2.1,cZ.eS h d.2.2 k.2.2⟩
theorem OR.eS(h:b9 S b){o:bR}(m:(∃c n e f aK fz,o=.cells c n e f aK fz)\/∃es,dC o=some es){d g:Obj}(i:OR F S o V d)(k:OR F b o O g):OR F S o O g:=by
 rcases m with⟨c,n,e,f,aK,fz,rfl⟩|⟨es,he⟩;·grind[OR.JL]
 cases o with|map j c=>cases d<;>simp only[OR]at i;cases g<;>simp only[OR]at k⊢;exact⟨k.1,k.2.1,k.2.2.1,ct.eS h i.2.2.2 k.2.2.2⟩|cK j=>cases d<;>simp only[OR]at i;cases g<;>simp only[OR]at k⊢;have⟨_,_,u,_,p⟩:=i;have⟨r,s,l,t,q⟩:=k;exact⟨r,s,l,t,cZ.eS h p q⟩|_=>simp[dC]at he
theorem bm.SF(y:bm F W S H w'){hl:ah->Prop}(z:∀j,hl j->(H.get j).pB)(l:Hs.next=H.next)(i:∀j,(hl j->Hs.get j=.none)/\(¬hl j->Hs.get j=H.get j))(f:bm F (W.i9 S hl λ_=>False) S Hs w')(q:b9 S b)(r:bm F (W.i9 S hl λ_=>False) b B M)(A:dk (W.i9 S hl λ_=>False) w' M)(s:∀j:ah,j.ap<H.next.ap->B.get j=Hs.get j)(t:∀j,¬hl j->H.get j≠.none->(∃c n e u aK fz,H.get j=.cells c n e u aK fz)\/∃es,dC (H.get j)=some es):∃d,b9 S d/\bm F W d H M/\dk W w' M:=by
 classical
  let d:aP:=⟨λj=>if j.ap<Hs.next.ap then S j else if False then b j else none,b.k⟩;have p:b9 S d:=by
   intro j x hj;refine⟨?_,(q j x hj).2⟩;show(if j.ap<Hs.next.ap then S j else _)=_;rcases aic j.ap Hs.next.ap with h|h;·rw[aF h];exact hj
   rw[(f.du j h).2]at hj;cases hj
  have v:=bm.EM f q r (H2:=Hs) (aeE _) id (λ_=>False) d rfl (λj h1 h2=>absurd (f.du j h1).1 h2) (λ_ h=>h.elim) (λ_ _ h=>h.elim) (λj hj hg=>by have m:¬hl j:=λh=>hg ((i j).1 h);have C:=s j (by rw[<-l];exact hj);rw[C];refine⟨hg,hg,rfl,rfl,rfl,rfl,λx E o=>?_,λ_ _ h=>h⟩;have⟨G,I,D,_,_,g⟩:=f.dq j hg;rw[(i j).2 m]at o g hg⊢;exact OR.mono p (OR.eS q (t j m hg) g o));have⟨J,K⟩:=y.EL z v.1 v.2 A (H2:=H) l.symm (λ_ _=>rfl) (λj h=>((i j).2 h).symm);grind
theorem bm.SG(L:bm F W S H w'){hl:ah->Prop}(O:∀j,hl j->(H.get j).pB)(g:Hs.next=H.next)(q:∀j,(hl j->Hs.get j=.none)/\(¬hl j->Hs.get j=H.get j))(l:bm F (W.i9 S hl λ_=>False) S Hs w')(y:b9 S b)(t:bm F (W.i9 S hl λ_=>False) b B M)(R:dk (W.i9 S hl λ_=>False) w' M)(A:∀j:ah,j.ap<H.next.ap->B.get j=Hs.get j)(C:∀j,¬hl j->H.get j≠.none->(∃c n e D aK fz,H.get j=.cells c n e D aK fz)\/∃es,dC (H.get j)=some es){o:bR}(E:H.next.ap<=N.ap)(Q:B.get N=o)(f:o.pB)(G:∀I d:aP,∀x s,OR F I o x s->OR F d o x s):∃d:aP,b9 S d/\bm F W d (H.new o) M/\dk W w' M/\d H.next=b N/\d.k=b.k:=by
 classical
  let d:aP:=⟨λj=>if j.ap<Hs.next.ap then S j else if j=H.next then b ((λ_=>N) j)else none,b.k⟩;have v:b9 S d:=by
   intro j x hj;refine⟨?_,(y j x hj).2⟩;show(if j.ap<Hs.next.ap then S j else _)=_;rcases aic j.ap Hs.next.ap with h|h;·rw[aF h];exact hj
   rw[(l.du j h).2]at hj;cases hj
  have J:d H.next=b N:=by show(if H.next.ap<Hs.next.ap then _ else if H.next=H.next then _ else _)=_;rw[an (by rw[g];omega),aF rfl]
  have m:(Hs.new o).next.ap=Hs.next.ap+1:=ah.eP _;obtain⟨av,x,s,eb,Y,Z,r⟩:=t.aE (i:=N) (by rw[Q];exact f.2.2);have z:=bm.EM l y t (H2:=Hs.new o) (by rw[m];omega) (λ_=>N) (λj=>j=H.next) d rfl (λj h1 h2=>by
   rw[ai.cL]at h2;split at h2;·rename_i e;rw[e,g]
   exact absurd (l.du j h1).1 h2) (λj hj=>by rw[hj,Q,ai.cL,aF g.symm];exact⟨by rw[g];exact aeE _,by rw[m,g];omega,by rw[g];exact E,f.2.2,f.2.1,f.1,f.2.1,f.1,rfl,λx s h=>G _ _ x s h,λ_ _ h=>h⟩) (λi j h1 h2 _=>h1.trans h2.symm) (λj hj hg=>by rw[ai.cL,an (bW aa)]at hg⊢;have u:¬hl j:=λh=>hg ((q j).1 h);have T:=A j (by rw[<-g];exact hj);rw[T];refine⟨hg,hg,rfl,rfl,rfl,rfl,λx s r=>?_,λ_ _ h=>h⟩;have⟨b0,x0,ag,_,_,p⟩:=l.dq j hg;rw[(q j).2 u]at r p hg⊢;exact OR.mono v (OR.eS y (C j u hg) p r));have K:¬hl H.next:=λh=>(O _ h).2.2 (L.du _ (aeE _)).1;obtain⟨V,X⟩:=L.EL O z.1 z.2 R (H2:=H.new o) (by show H.next.succ=Hs.next.succ;rw[g]) (λj h=>by rw[ai.cL,an λe:j=H.next=>K (e▸h)]) (λj h=>by
   rw[ai.cL,ai.cL,g];split;·rfl
   exact((q j).2 h).symm);exact⟨d,z.1,V,X,J,rfl⟩
theorem JY(m:bm F W S H M)(qC:ah->Prop):∃(hl:ah->Prop)(Hs:ai),(∀j,hl j->(H.get j).pB)/\(∀j,qC j->¬hl j)/\Hs.next=H.next/\(∀j,(hl j->Hs.get j=.none)/\(¬hl j->Hs.get j=H.get j))/\bm F (W.i9 S hl λ_=>False) S Hs M/\∀j,¬hl j->H.get j≠.none->qC j\/∃c n e d aK fz,H.get j=.cells c n e d aK fz:=by
 classical
  let hl:ah->Prop:=λj=>(H.get j).pB/\¬qC j;have⟨Hs,f,b⟩:=H.iy (λj h=>(m.du j h).1) hl;refine⟨hl,Hs,λj h=>h.1,λj g h=>h.2 g,f,b,m.sO (λi h=>h.1) (λ_ h=>h.elim) f (λj=>?_) (λj h=>(b j).1 h),λj h1 h2=>?_⟩
  .by_cases h:hl j;·exact .inr ((b j).1 h)
   exact .inl ((b j).2 h)
  by_cases g:qC j;·exact .inl g
  right;have l:¬(H.get j).pB:=λh=>h1 ⟨h,g⟩;cases k:H.get j with|cells c n e d aK fz=>exact⟨c,n,e,d,aK,fz,rfl⟩|none=>exact absurd k h2|_=>exact absurd ⟨by rw[k];rfl,by rw[k];rfl,h2⟩ l
theorem SH(f:n=E.length)(c d:aP)(x:Nat)(b:Obj)(h:OR F c (.cells (cr (E.map λz=>.int 3 z)) n O true [] 0) x b):OR F d (.cells (cr (E.map λz=>.int 3 z)) n O true [] 0) x b:=by cases b<;>simp only[OR]at h⊢;refine⟨h.1,h.2.1,λi hi=>?_,h.2.2.2⟩;have⟨v,h1,h2⟩:=h.2.2.1 i hi;refine⟨v,h1,?_⟩;have e:i<E.length:=aa;rw[nN _ _ (by grind)]at h2⊢;simp only[List.getD,ahB,getElem?_pos E i e,ahQ,aii]at h2⊢;cases v<;>simp only[VR]at h2⊢;omega
theorem BJ:∀{es:List aV}{ks:List Int},iB es=some ks↔es.map (·.key)=ks.map λk=>.int 3 k
 |[],ks=>by simp[iB]
 |e::es,ks=>by
  simp only[iB];constructor
  .intro h;split at h;·rename_i k l h1 h2;injection h with h;subst h;simp only[ahk,h1,BJ.1 h2]
   grind
  intro h;cases ks with|nil=>grind|cons k ks=>simp only[ahk,ahD]at h;simp only[h.1,BJ.2 h.2]
theorem SJ{es:List aV}(c:(r.map aV.kv).Perm (es.map aV.kv))(h:iB es=some ks):∃b,iB r=some b/\b.Perm ks:=by
 have d:(r.map (·.key)).Perm (ks.map λk=>.int 3 k):=by have:=c.map ai6;rw[aiF,aiF]at this;rw[<-BJ.1 h];exact this
 let f:AV->Int:=λv=>match v with|.int _ k=>k|_=>0;have e:(ks.map λk=>AV.int 3 k).map f=ks:=by
  rw[aiF];have:(f∘λk=>AV.int 3 k)=id:=by funext k;rfl
  rw[this,List.map_id]
 refine⟨(r.map (·.key)).map f,BJ.2 ?_,by grind⟩;rw[aiF];conv=>lhs;rw[<-List.map_id (r.map (·.key))]
 refine aip λv g=>?_;have:=d.mem_iff.1 g;rw[ahm]at this;obtain⟨k,_,rfl⟩:=this;rfl
theorem afh(ht:lI F c)(hl:c listF=.code 6 [.tmp (sl 2)] (JS keysF sortedF))(hk:c keysF=.code 4 [.tmp (sl 2)] (ES iterF e1))(hd:c sortedF=.code 9 [.tmp (sl 2)] (ER collF sortF))(hs:c sortF=.ji tb)(hc:c collF=.code 5 [.tmp (sl 2)] (BH appF))(hf:c appF=.code 13 [.tmp (sl 4)] (xu e2))(hi:c iterF=.code 14 [] ET):zc F listF zB:=by
 have y:∀{W:cq}{S:aP}{H A:ai}{M:World}{b:ah->Prop}{Hs:ai}{bv:AV}{ks:List Int}{argv:Array Value}{n:Nat}(eS:∀{z:cq}{p:aP}{I:ai}{w':World},bm F z p I w'->(∀j:ah,j.ap<H.next.ap->I.get j=A.get j)->∃L:ai,L.next=I.next/\bm F z p L w'/\(∀j:ah,j.ap<H.next.ap->L.get j=Hs.get j)/\∀j:ah,H.next.ap<=j.ap->L.get j=I.get j),bm F W S H M->(∀j,b j->(H.get j).pB)->Hs.next=H.next->(∀j,(b j->Hs.get j=.none)/\(¬b j->Hs.get j=H.get j))->bm F (W.i9 S b λ_=>False) S A M->A.next=H.next->bm F (W.i9 S b λ_=>False) S Hs M->(∀j,¬b j->H.get j≠.none->(∃b3 n e a1 aK fz,H.get j=.cells b3 n e a1 aK fz)\/∃es,dC (H.get j)=some es)->be S [bv] argv.toList->bv.cells=[bv]->bv.cY=true->ks.length<=1000->tg c n iterF bv A ks->∀(fr:Frame)(cs:List Frame),qk fr->wM F W S M (callFunc listF argv) fr cs λN d=>(ks=[]/\N=.bj/\d=H)\/(ks≠ []/\N=.slice H.next 0 ks.length ks.length false/\d=H.new (.cells (cr ((eL ks).map λn=>.int 3 n)) ks.length 3 true [] 0)):=by
  intro W S H A M b Hs bv ks argv n eS u hy T V a2 a6 X Y ha a8 a' q B fr cs hat;have ax:=SE (n:=n) hl hk hd hs hc hf a8 a' q B (K:=λv H4=>BI H4 A.next.ap ks v/\∀j:ah,j.ap<A.next.ap->H4.get j=A.get j) (λv H4 h1 h2=>⟨h1,h2⟩);have l:=(Br ht (n+150)).1 (n+150) (aeE _) ax (fv:=.func (.func listF) #[] #[]) (by simp[VR,be]) ha a2 fr cs hat;have ay:mR (.func (.func listF) #[] #[]) argv=callFunc listF argv:=by simp[mR,Deferred.ofValue,invoke]
  rw[ay]at l;have⟨v,H4,b3,w',f,g,x,⟨k1,k2⟩,⟨p,hx,O,ba,o⟩,q1,q2⟩:=l;rw[a6]at k1 k2;have⟨L,n3,Z,f1,f2⟩:=eS ba k2;rcases k1 with⟨rfl,rfl⟩|⟨id,rfl,ag,av,hg⟩;·have⟨C,Q,k,x3⟩:=bm.SF u hy T V X hx Z o f1 Y;have bb:=O.lh;subst bb;exact⟨.bj,H,_,w',f,g,x,.inl ⟨rfl,rfl,rfl⟩,⟨C,Q,by simp[VR],k,x3⟩,q1,q2⟩
  have bc:ks.length=(eL ks).length:=(ta ks).length_eq.symm;obtain⟨C,Q,k,x3,x4,x5⟩:=bm.SG u hy T V X hx Z o f1 Y av (by rw[f2 id av];exact hg) ⟨rfl,rfl,aC⟩ (SH bc);refine⟨_,_,b3,w',f,g,x,.inr ⟨ag,rfl,rfl⟩,⟨C,Q,?_,k,x3⟩,q1,q2⟩;cases b3 with
  |slice b4 n' m'=>cases b4 with|none=>simp[VR]at O|some b4=>simp only[VR]at O⊢;rw[x4,x5];exact O
  |_=>simp[VR]at O
 intro W S H H' M args v argv hg ha u fr cs hat;unfold zB at hg;split at hg
 .injection hg with hg;injection hg with D E;subst D;subst E;have⟨b,Hs,y1,_,J,y3,R,y5⟩:=JY u λ_=>False;have⟨v,d,b3,w',f,g,x,K,r⟩:=y (A:=Hs) (ks:=[]) (n:=100) (bv:=.cP) (λh1 h2=>⟨_,rfl,h1,h2,λ_ _=>rfl⟩) u y1 J y3 R J R (λj h1 h2=>.inl ((y5 j h1 h2).resolve_left id)) ha rfl rfl aC (Sy hi) fr cs hat;rcases K with⟨_,rfl,rfl⟩|⟨h,_⟩;·exact⟨_,_,b3,w',f,g,x,⟨rfl,rfl⟩,r⟩
  grind
 .rename_i m;have go:∀{ks:List Int},iD H m=some ks->ks.length<=1000->wM F W S M (callFunc listF argv) fr cs λN d=>(ks=[]/\N=.bj/\d=H)\/(ks≠ []/\N=.slice H.next 0 ks.length ks.length false/\d=H.new (.cells (cr ((eL ks).map λn=>.int 3 n)) ks.length 3 true [] 0)):=by
   intro ks G q;have⟨es,e1,e2,e3⟩:=uz G;have⟨b,Hs,y1,y0,J,y3,R,y5⟩:=JY u λj=>j=m;have gm:Hs.get m=H.get m:=(y3 m).2 (y0 m rfl);have aw:m.ap<H.next.ap:=by
    rcases aic m.ap H.next.ap with h|h;·exact h
    rw[(u.du m h).1]at e1;simp[dC]at e1
   obtain⟨s,i,i1,p1,p2,p3,eS⟩:=Jw R (m:=m) (es:=es) (by rw[gm];exact e1);have⟨t,Q,k⟩:=SJ p1 e2;have B:tg c (s.length+100) iterF (.map m) (Hs.set m (.map s i)) t:=Sx hi (m:=m) (A:=Hs.set m (.map s i)) (by rw[ai.aG,aF rfl]) (by show m.ap<Hs.next.ap;rw[J];exact aw) p2 p3 Q (k.nodup_iff.2 e3) (by rw[k.length_eq];exact q);obtain⟨v,d,b3,w',f,g,x,K,r⟩:=y (A:=Hs.set m (.map s i)) (ks:=t) (bv:=.map m) (H:=H) (Hs:=Hs) (λ{z p I w'}h1 h2=>⟨I.set m (Hs.get m),rfl,eS h1 (by rw[h2 m aw,ai.aG,aF rfl]),λj hj=>by
    rw[ai.aG];split;·rename_i e;rw[e]
    rename_i e;rw[h2 j hj,ai.aG,an e],λj hj=>by rw[ai.aG,an (bW aa)]⟩) u y1 J y3 i1 (by show Hs.next=_;exact J) R (λj h1 h2=>by
    rcases y5 j h1 h2 with h|h;·exact .inr ⟨es,by rw[h];exact e1⟩
    exact .inl h) ha rfl rfl (by rw[k.length_eq];exact q) B fr cs hat;refine⟨v,d,b3,w',f,g,x,?_,r⟩;rw[BG (xp t) (xp ks) ((ta t).trans (k.trans (ta ks).symm)),k.length_eq]at K;rcases K with⟨h,h'⟩|⟨h,h'⟩;·exact .inl ⟨by rw[h]at k;exact List.nil_perm.1 k,h'⟩
   exact .inr ⟨λe=>h (by rw[e]at k;exact List.perm_nil.1 k),h'⟩
  split at hg;·grind
  .rename_i ks ag G;split at hg;case isFalse=>grind
   rename_i b0;injection hg with hg;injection hg with D E;subst D;subst E;have⟨v,d,b3,w',f,g,x,K,r⟩:=go G (aht b0);rcases K with⟨h,_⟩|⟨_,rfl,rfl⟩;·grind
   exact⟨_,_,b3,w',f,g,x,⟨rfl,rfl⟩,r⟩
  grind
 grind
theorem afi{f:FuncId}{fn:Func}(h1:F.funcs[f]?=some fn)(h2:(fn.name== "runtime.NumGoroutine")=false)(h3:fn.body.isNone=true)(K:Extern.findNext fn=none)(L:Extern.find fn=some Extern.MapsClone.clone):zc F f zC:=by
 intro X Y H Z w args v h hg a q fr cs hat;unfold zC at hg;split at hg;case h_2=>grind
 rename_i t m;split at hg;case h_2=>grind
 rename_i es c M;injection hg with hg;injection hg with s A;subst s;subst A;have⟨b,x,ob,N,W,B,i⟩:=q.aE (i:=m) (by grind);rw[M]at i;cases ob<;>simp only[OR]at i;rename_i bB k;obtain⟨rfl,rfl,eB,O⟩:=i;have C:h= #[.iface t (.map (some b))]:=by
  have⟨l⟩:=h;cases l with
  |nil=>simp[be]at a
  |cons Q l=>
   cases l with
   |cons _ _=>simp[be]at a
   |nil=>
    simp only[be,and_true]at a;cases Q with
    |iface u z=>
     simp only[VR]at a;obtain⟨rfl,a⟩:=a;cases z with
     |map G=>cases G with|none=>simp[VR]at a|some G=>simp only[VR]at a;rw[N]at a;injection a with a;injection a with a _;rw[a]
     |_=>simp[VR]at a
    |_=>simp[VR]at a
 subst C;have D:(getObj b).run F w=.ok (.map bB k) w:=by simp[getObj,Sem.run,B]
 have p:(callFunc f #[.iface t (.map (some b))]).run F w=.ok (.value (.iface t (.map (some w.heap.size)))) {w with heap:=w.heap.push (.map bB k)}:=by
  have I:Extern.MapsClone.clone #[.iface t (.map (some b))]=((getObj b).bind λo=>match o with|.map d n=>(newObj (.map d n)).bind λr=>pure (.iface t (.map (some r)))|_=>stuck "maps.clone: a map expected"):=rfl;have E:(Extern.MapsClone.clone #[.iface t (.map (some b))]).run F w=.ok (.iface t (.map (some w.heap.size))) {w with heap:=w.heap.push (.map bB k)}:=by rw[I];have:∀{J R:Type}(x:Sem J)(g:J->Sem R),x.bind g=x>>=g:=λ_ _=>rfl;simp only[this,Sem.run_bind,D,Result.andThen_ok,run_newObj,Sem.run_pure]
  simp only[callFunc,Sem.run_bind,run_program,Result.andThen_ok,h1,h2,h3,K,L,abH,bF,bg,run_mark,Sem.run_pure,E]
 obtain⟨S,T,V⟩:=q.alloc (o:=.map es k) (ob:=.map bB k) (0,0) (by trivial) aC rfl (by simp only[OR];refine⟨trivial,trivial,eB,ct.mono (aP.qi w.heap.size 0 (0,0) (q.du H.next (aeE _)).2 λj c y e I=>by have:=q.ef j c y e;omega) O⟩);exact⟨_,_,_,_,_,_,_,⟨rfl,rfl⟩,⟨_,S,by simp[VR,aP.eA],T,V⟩,Bj p,Steps.refl _ _⟩
def xw(F:Program)(f:Nat):aX->Prop
 |.none=>True
 |.code a b body=>∃fn,F.funcs[f]?=some fn/\yU F fn=some (.code a b body)/\(fn.name== "runtime.NumGoroutine")=false
 |.ji g=>zc F f g
 |.eH g=>uu F f g
theorem SK(h:∀f,xw F f (c f)):lI F c:=by have key:∀f v,c f=v->xw F f v:=λf v e=>e▸h f;exact⟨λf a b body e=>key f _ e,λf g e=>key f (.ji g) e,λf g e=>key f (.eH g) e⟩
theorem afj(h1:xw F O (.code 32 [] (zG n)))(h2:xw F n (.code 13 [.tmp (sl 4)] xm)):lI F (nU O n):=SK λf=>by
 unfold nU;split;·simp_all
 split;·simp_all
 trivial
def EV(l:List (Nat×aX))(f:Nat):aX:=
 match l with
 |[]=>.none
 |(n,v)::l=>if ahr n f then v else EV l f
def JZ(Q:Nat->aX->Prop):List (Nat×aX)->Prop
 |[]=>True
 |(n,v)::l=>Q n v/\JZ Q l
theorem SL:∀{l:List (Nat×aX)},JZ (xw F) l->∀f,xw F f (EV l f)
 |[],_,_=>trivial
 |(n,v)::l,h,f=>by
  simp only[EV];split;·rename_i e;rw[<-ahn e];exact h.1
  exact SL h.2 f
theorem afk(L:lI F c){f:Nat}{rs:List gO}(hg:c f=.code nt rs body){args:List AV}(he:Xf c n (.func f [] []) args B h)(R:be ρ args Z.toList)(S:bm F W ρ B M):Calls F f Z M λe x=>∃v y ag,e=.returned ag/\h v y/\cM F W ρ M v y ag x:=by
 intro cs;cases n with
 |zero=>simp only[Xf,fC]at he
 |succ n=>
  have o:wN F c n:=(Br L n).2.1;simp only[Xf,fC,hg,aie,ah8]at he;have⟨fn,q,r,I⟩:=L.code f nt rs body hg;split at he;case isFalse=>exact he.elim
  rename_i m;have m:=aht m;simp only[yU,aeX,abF,ahe,aa9,aX.code.injEq]at r;have⟨cc,A,J,p,C,G,T,V,X⟩:=r;subst T;subst V;subst X;let b:Frame:={(default:Frame)with fn:=f,kind:=.normal};let a:Act:={tmps:=Z++Array.replicate (fn.ntmps - Z.size) undef,defers:=[]};have i:Frame.enter F f Z .normal=b.atR a [.code cc]:=by simp only[Frame.enter,Frame.atR,q,A,b,a,ahQ,aii,aiS];rfl
  have Y:gI ρ fn.ntmps ⟨jL args .xH .ch,[],none⟩ b.roundOf a:=⟨IH R m,trivial,trivial⟩;have⟨j,s,y,H,z,x,t,h1,h2,h3,h4,h5,N,h7⟩:=o p he Y S [] cs;have u:∃k:Frame,k={b.atR z k.todo with mode:=.returning}/\step F (lone (b.atR z t) cs x)=.next (lone k cs x):=by cases j with|none=>rw[show t=[]from N];exact⟨_,rfl,stepR_end rfl⟩|exit id=>exact h1.elim|ret=>obtain⟨k0,rfl⟩:=N;exact⟨_,rfl,stepR_ret rfl⟩
  have⟨k,d,dg⟩:=u;have g:(match iI y s.bA with
   |some B=>match fH s.af B C with|some l=>h (gC l) B|none=>False
   |none=>False):=by cases j with|none=>exact h1|exit id=>exact h1.elim|ret=>exact h1
  split at g
  .rename_i H2 hm;split at g
   .rename_i l hl;have w:k={k with defers:=z.defers}:=by rw[d];rfl
    have⟨w2,O,Q,s3⟩:=D8 h4 h3.D hm k cs (by rw[d]);rw[<-w]at O;have⟨ag,hc,hv⟩:=IJ Q h3.E G hl;refine⟨.returned ag,w2,{k with defers:=[]},⟨gC l,H2,ag,rfl,g,H,h2,hv,Q,h5.trans s3⟩,?_,?_,?_⟩;·rw[i];exact h7.trans (.head dg O)
    .rw[d];rfl
    refine⟨by rw[d],rfl,by rw[d];rfl,fn,by rw[d];exact q,?_⟩;rw[d];exact hc
   exact g.elim
  exact g.elim
def SM(w:World):cq:=⟨λb=>w.heap.size<=b,λb=>w.heap.size<=b,λ_=>False,λ_=>False⟩
def J4(n:Nat):aP:=⟨λj=>if j.ap<=n then some (j.ap - 1,0)else none,λ_=>(0,0)⟩
theorem afl(d:F.globals.size=n)(e:n<=M.heap.size):bm F (SM M) (J4 n) ⟨.ch,ah.cV n⟩ M:=by
 have hg:∀j,ai.get ⟨.ch,ah.cV n⟩ j=.none:=pu _;have hi:∀j b x,J4 n j=some (b,x)->j.ap<=n/\b=j.ap - 1:=by
  intro j b x h;have:(if j.ap<=n then some (j.ap - 1,0)else none)=some (b,x):=h;split at this;·rename_i a;injection this with this;injection this with h1 _;exact⟨a,h1.symm⟩
  cases this
 refine⟨λi h=>absurd (hg i) h,λi j b x y _ h=>absurd (hg i) h,λi j h=>?_,λi b x h=>absurd (hg i) h,λi h=>⟨hg i,?_⟩,λk c=>⟨c,c⟩,λg h=>?_,λi b x f h=>absurd (hg i) h,λi b x h=>?_,λi b x h=>absurd (hg i) h,λi h=>h.elim,λi h=>h.elim⟩;·rw[hg]at h;cases h
 .have:(ah.cV n).ap<=i.ap:=h;rw[ah.kQ]at this;show(if i.ap<=n then _ else _)=_;rw[an aa]
 .show(if(ah.cV g).ap<=n then _ else _)=_;rw[ah.kQ,aF aa];simp
 have⟨h1,h2⟩:=hi i b x h;have:=ah.sE i;omega
end
section
variable{ac:Nat->aX}
structure BK(ac:Nat->aX)(n:Nat):Prop where
 exec:∀{c fr H}{K:Nat->cC->Fr->ai->Prop},(∀m m' j fr H,m<=m'->K m j fr H->K m' j fr H)->exec False da ac n c fr H (λj fr H=>∃m,K m j fr H)->∃m,exec False da ac n c fr H (K m)
 aA:∀{l fr H}{K:Nat->Fr->ai->Prop},(∀m m' fr H,m<=m'->K m fr H->K m' fr H)->Go.al.aA False da ac n l fr H (λfr H=>∃m,K m fr H)->∃m,Go.al.aA False da ac n l fr H (K m)
 call:∀{f args H}{K:Nat->KT},(∀m m' v H,m<=m'->K m v H->K m' v H)->fC False da ac n f args H (λv H=>∃m,K m v H)->∃m,fC False da ac n f args H (K m)
theorem SN(h:BK ac n){K:Nat->cC->Fr->ai->Prop}(e:∀m o j L B,m<=o->K m j L B->K o j L B)(he:exec False da ac (n+1) d L B (λj L B=>∃m,K m j L B)):∃m,exec False da ac (n+1) d L B (K m):=by
 have mo:=mono ac n;cases d with
 |skip=>simp only[exec]at he⊢;exact he
 |region l=>simp only[exec]at he⊢;exact h.aA (λm o L B=>e m o .none L B) he
 |seq a b=>
  simp only[exec]at he⊢;refine h.exec (K:=λm j L B=>match j with|.none=>exec False da ac n b L B (K m)|j=>K m j L B) (λm o j L B g hj=>?_) (mo.exec (aeE _) (λj L B hj=>?_) he);·cases j with|none=>exact mo.exec (aeE _) (λj L B=>e m o j L B g) hj|exit i=>exact e _ _ _ _ _ g hj|ret=>exact e _ _ _ _ _ g hj
  cases j with|none=>exact h.exec e hj|exit i=>exact hj|ret=>exact hj
 |cond d a b=>
  simp only[exec]at he⊢;split at he;·exact h.exec e he
  .exact h.exec e he
  exact he.elim
 |block id b=>
  simp only[exec]at he⊢;refine h.exec (K:=λm j L B=>match j with|.exit i=>if ahr i id then K m .none L B else K m (.exit i) L B|j=>K m j L B) (λm o j L B g hj=>?_) (mo.exec (aeE _) (λj L B hj=>?_) he);·cases j with|none=>exact e _ _ _ _ _ g hj|exit i=>simp only at hj⊢;split at hj<;>rename_i hi<;>simp only[hi,bg,bF,abH]<;>exact e _ _ _ _ _ g hj|ret=>exact e _ _ _ _ _ g hj
  cases j with|none=>exact hj|exit i=>simp only at hj⊢;split at hj<;>rename_i hi<;>simp only[hi,bg,bF,abH]<;>exact hj|ret=>exact hj
 |loop b=>
  simp only[exec]at he⊢;refine h.exec (K:=λm j L B=>match j with|.none=>exec False da ac n (.loop b) L B (K m)|j=>K m j L B) (λm o j L B g hj=>?_) (mo.exec (aeE _) (λj L B hj=>?_) he);·cases j with|none=>exact mo.exec (aeE _) (λj L B=>e m o j L B g) hj|exit i=>exact e _ _ _ _ _ g hj|ret=>exact e _ _ _ _ _ g hj
  cases j with|none=>exact h.exec e hj|exit i=>exact hj|ret=>exact hj
 |rangeFunc f p as bd=>
  simp only[exec]at he⊢;have go:∀(K:cC->Fr->ai->Prop)(s:cC->Fr->ai->Prop)(_:∀j L B,K j L B->s j L B)(L:Fr)(l:ah)(c:ai),(match c.get l with
   |.loop st bU fn af p as bd x=>match st with|.busy=>False|_=>K bU L (c.set l (.loop .exhausted bU fn af p as bd x))
   |_=>False)->(match c.get l with
   |.loop st bU fn af p as bd x=>match st with|.busy=>False|_=>s bU L (c.set l (.loop .exhausted bU fn af p as bd x))
   |_=>False):=by
   intro K s u L l c k;cases q:c.get l with
   |loop st bU fn af p as bd x=>rw[q]at k;cases st<;>first|exact k.elim|exact u _ _ _ k
   |_=>rw[q]at k;exact k.elim
  have r:∀(L:Fr)(l:ah)(c:ai),(match c.get l with
   |.loop st bU fn af p as bd x=>match st with|.busy=>False|_=>∃m,K m bU L (c.set l (.loop .exhausted bU fn af p as bd x))
   |_=>False)->∃m,(match c.get l with
   |.loop st bU fn af p as bd x=>match st with|.busy=>False|_=>K m bU L (c.set l (.loop .exhausted bU fn af p as bd x))
   |_=>False):=by
   intro L l c k;cases q:c.get l with
   |loop st bU fn af p as bd x=>rw[q]at k;cases st<;>first|exact k.elim|exact k
   |_=>rw[q]at k;exact k.elim
  cases w:L.bx with
  |none=>rw[w]at he;simp only at he⊢;exact h.call (λm o v c g=>go _ _ (λj L B=>e m o j L B g) _ _ _) (mo.call (aeE _) (λv c k=>r _ _ _ k) he)
  |some l=>
   rw[w]at he;simp only at he⊢;split at he;·exact h.call (λm o v c g=>go _ _ (λj L B=>e m o j L B g) _ _ _) (mo.call (aeE _) (λv c k=>r _ _ _ k) he)
   exact he.elim
 |exit id=>simp only[exec]at he⊢;exact he
 |ret=>simp only[exec]at he⊢;exact he
 |eH t=>
  simp only[exec]at he⊢;split at he
  .split at he;·exact he
   exact he.elim
  exact he.elim
theorem J5{Q:Nat->Nat->Prop}(c:∀i m d,m<=d->Q i m->Q i d):∀n,(∀i,i<n->∃m,Q i m)->∃m,∀i,i<n->Q i m
 |0,_=>⟨0,λi h=>by omega⟩
 |n+1,h=>by
  have⟨a,f⟩:=J5 c n λi hi=>h i aa;have⟨b,hb⟩:=h n aC;refine⟨max a b,λi hi=>?_⟩;by_cases e:i=n;·grind
  exact c _ _ _ (Nat.le_max_left ..) (f i aa)
theorem SO(h:BK ac n){K:Nat->Fr->ai->Prop}(j:∀m a L B,m<=a->K m L B->K a L B)(he:Go.al.aA False da ac (n+1) X L B (λL B=>∃m,K m L B)):∃m,Go.al.aA False da ac (n+1) X L B (K m):=by
 have mo:=mono ac n;cases X with
 |nil=>trivial
 |cons o X=>
  simp only[Go.al.aA]at he⊢;have f:∀(m a:Nat)(s:List (ah×bR))(v:AV)(B:ai),m<=a->(if dQ (aQ L.af o.dst v) (dj B s) o.re=true then Go.al.aA False da ac n X {L with af:=aQ L.af o.dst v} (dj B s) (K m)else False)->(if dQ (aQ L.af o.dst v) (dj B s) o.re=true then Go.al.aA False da ac n X {L with af:=aQ L.af o.dst v} (dj B s) (K a)else False):=by
   intro m a s v B e b;split at b;·rename_i k;rw[aF k];exact mo.aA (aeE _) (λL B=>j m a L B e) b
   exact b.elim
  have g:∀(s:List (ah×bR))(v:AV)(B:ai),(if dQ (aQ L.af o.dst v) (dj B s) o.re=true then Go.al.aA False da ac n X {L with af:=aQ L.af o.dst v} (dj B s) (λL B=>∃m,K m L B)else False)->∃m,(if dQ (aQ L.af o.dst v) (dj B s) o.re=true then Go.al.aA False da ac n X {L with af:=aQ L.af o.dst v} (dj B s) (K m)else False):=by
   intro s v B b;split at b;·rename_i k;have⟨m,e⟩:=h.aA j b;exact⟨m,by rw[aF k];exact e⟩
   exact b.elim
  split at he
  .rename_i hg;simp only[aF hg];split at he;·exact h.call (λm a v l e=>f m a _ v l e) (mo.call (aeE _) (λv l b=>g _ v l b) he)
   .split at he
    .rename_i cs d _;refine J5 (Q:=λi m=>match cs[i]? with|some c=>if dQ (aQ L.af o.dst (d c).1) (dj (d c).2 (dF L.af B o.iy).2) o.re=true then Go.al.aA False da ac n X {L with af:=aQ L.af o.dst (d c).1} (dj (d c).2 (dF L.af B o.iy).2) (K m)else False|none=>False) (λi m a e b=>?_) cs.length λi hi=>?_;·grind
     have:=he i hi;simp_all
    grind
   split at he;all_goals grind
  rename_i hg;simp only[an hg];split at he;·rename_i hd;simp only[aF hd];exact h.aA j he
  grind
def zI(l:ah)(K:KT)(j:cC)(H:ai):Prop:=
 match H.get l with
 |.loop _ _ fn af a as bd d=>match j with
  |.none=>K (.bool true) (H.set l (.loop .ready .none fn af a as bd d))
  |j=>K (.bool false) (H.set l (.loop .done j fn af a as bd d))
 |_=>False
theorem SP(h:BK ac n){K:Nat->KT}(o:∀m k v B,m<=k->K m v B->K k v B)(he:fC False da ac (n+1) Y f B (λv B=>∃m,K m v B)):∃m,fC False da ac (n+1) Y f B (K m):=by
 have mo:=mono ac n;cases Y<;>(try(simp only[fC]at he;done))
 .simp only[fC]at he⊢;split at he;·grind
  .grind
  .grind
  split at he
  .rename_i u results body _ p;simp only[aF p];have aq:∀(K:KT)(K':KT)(_:∀v B,K v B->K' v B)(fr:Fr)(B:ai),(match iI B fr.bA with
    |some B=>match fH fr.af B results with|some l=>K (gC l) B|none=>False
    |none=>False)->(match iI B fr.bA with
    |some B=>match fH fr.af B results with|some l=>K' (gC l) B|none=>False
    |none=>False):=by
    intro K K' q fr B a;split at a
    .split at a;·exact q _ _ a
     exact a.elim
    exact a.elim
   have g:∀(fr:Fr)(B:ai),(match iI B fr.bA with
    |some B=>match fH fr.af B results with|some l=>∃m,K m (gC l) B|none=>False
    |none=>False)->∃m,(match iI B fr.bA with
    |some B=>match fH fr.af B results with|some l=>K m (gC l) B|none=>False
    |none=>False):=by
    intro fr B a;split at a
    .split at a;·exact a
     exact a.elim
    exact a.elim
   refine h.exec (K:=λm j fr B=>match j with
    |.exit _=>False
    |_=>match iI B fr.bA with
     |some B=>match fH fr.af B results with|some l=>K m (gC l) B|none=>False
     |none=>False) (λm k j fr B c hj=>?_) (mo.exec (aeE _) (λj fr B hj=>?_) he);·cases j with|exit i=>omega|none=>exact aq _ _ (λv B=>o m k v B c) _ _ hj|ret=>exact aq _ _ (λv B=>o m k v B c) _ _ hj
   cases j with|exit i=>grind|none=>exact g _ _ hj|ret=>exact g _ _ hj
  grind
 rename_i l;simp only[fC]at he⊢;split at he
 .split at he
  .split at he
   .rename_i hl;simp only[aF hl];refine h.exec (K:=λm j fr B=>match j,B.get l with
     |.none,.loop .ready bU fn af e as r d=>exec False da ac n _ fr (B.set l (.loop .busy bU fn af e as r d)) λj _ B=>match B.get l with
      |.loop _ _ fn af e as bd d=>match j with|.none=>K m (.bool true) (B.set l (.loop .ready .none fn af e as bd d))|j=>K m (.bool false) (B.set l (.loop .done j fn af e as bd d))
      |_=>False
     |_,_=>False) (λm k j fr B c hj=>?_) (mo.exec (aeE _) (λj fr B hj=>?_) he)
    .split at hj;·refine mo.exec (aeE _) (λj _ B a=>?_) hj;cases b:B.get l with|loop st bU fn af e as bd d=>rw[b]at a;cases j<;>exact o _ _ _ _ c a|_=>rw[b]at a;exact a.elim
     exact hj.elim
    split at hj;·have s:=mo.exec (aeE _) (K':=λj _ B=>∃m,zI l (K m) j B) (λj _ B a=>(by unfold zI;cases b:B.get l with|loop st bU fn af e as bd d=>rw[b]at a;cases j<;>exact a|_=>rw[b]at a;exact a.elim)) hj;obtain⟨m,c⟩:=h.exec (K:=λm j _ B=>zI l (K m) j B) (λm k j _ B c a=>by unfold zI at a⊢;cases b:B.get l with|loop st bU fn af e as bd d=>rw[b]at a;cases j<;>exact o _ _ _ _ c a|_=>rw[b]at a;exact a.elim) s;rename_i t;refine⟨m,?_⟩;simp only[t];refine mo.exec (aeE _) (λj _ B a=>?_) c;unfold zI at a;cases b:B.get l with|loop st bU fn af e as bd d=>rw[b]at a;cases j<;>exact a|_=>rw[b]at a;exact a.elim
    exact hj.elim
   exact he.elim
  exact he.elim
 exact he.elim
theorem xx(ac:Nat->aX):∀n,BK ac n|0=>⟨λ_ he=>by trivial,λ_ he=>by trivial,λ_ he=>by trivial⟩|n+1=>by have h:=xx ac n;exact⟨SN h,SO h,SP h⟩
end
end Go.al
end
